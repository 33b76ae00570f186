import PyProof.Rows.All
import Wide.All
import OpenK.AllK
import Wide.FinOn
import HandS.ForMost
import HandS.ForExc
import HandS.More
import HandS.TupAny
import HandS.Text
import HandS.Deep
import HandS.IsInst
import HandS.Iter
import HandS.Comp
import HandS.DictComp
import HandS.Zip
import HandS.RaiseMore
import HandS.Star
import HandS.Small
import HandS.OwnEq
import HandS.Style
import HandS.ForDict
import HandS.DeepEq
import KE.KExcSuper
import HandS.ExcInit
import HandS.Nested
import HandS.TryMany
import HandS.ExcField
import HandS.ExcIs
import PySem.Challenge.RW_findstold_k15_texts_refused
set_option Elab.async false
set_option linter.all false
set_option maxRecDepth 100000
set_option maxHeartbeats 1000000
/-! The data layer: values as data, mutable objects in a store by places; readings are functions. -/
namespace DL
open PySem L2

/-- a value as data: tup, lst, dct, ins stand still; loc k is the k-th object of the store -/
inductive D where
  | non | bl (b : Bool) | int (i : Int) | str (s : Str)
  | tup (xs : List D) | lst (xs : List D) | frl (xs : List D)
  | dct (ks : List Key) (xs : List D)
  | ins (C : Addr) (fs : List Str) (xs : List D)
  | loc (k : Nat)
  | vv (x : V)
/-- an object of the store -/
inductive Ob where
  | lst (xs : List D) | dct (ks : List Key) (xs : List D) | ins (C : Addr) (fs : List Str) (xs : List D) | dead

/-- a dict that is read; one that stands still -/
def RdD (H : Hp) (a : Addr) (kvs : List (Key × V)) : Prop := Rd H a (.dK kvs)
def FzD (H : Hp) (a : Addr) (kvs : List (Key × V)) : Prop := ∃ o, H a = some (.frz o (.dK kvs))
theorem FzD.rd {H : Hp} {a : Addr} {kvs : List (Key × V)} (h : FzD H a kvs) : RdD H a kvs := let ⟨o, h⟩ := h; .inr ⟨o, h⟩

mutual
inductive Is (K : PySem.W.Frag) (α : List Addr) (F : Hp) : V → D → Prop
  | non : Is K α F .non .non
  | bl (b : Bool) : Is K α F (.bl b) (.bl b)
  | int (i : Int) : Is K α F (.int i) (.int i)
  | str (s : Str) : Is K α F (.str s) (.str s)
  | tup {a : Addr} {vs : List V} {ds : List D} : SqT K F a vs → IsL K α F vs ds → Is K α F (.ref a) (.tup ds)
  | lst {a : Addr} {vs : List V} {ds : List D} : F a = some (.lst vs) → IsL K α F vs ds → Is K α F (.ref a) (.lst ds)
  | frl {a : Addr} {vs : List V} {ds : List D} : SqL K F a vs → IsL K α F vs ds → Is K α F (.ref a) (.frl ds)
  | dct {a : Addr} {kvs : List (Key × V)} {ks : List Key} {ds : List D} : FzD F a kvs → kvs.map (·.1) = ks → IsL K α F (kvs.map (·.2)) ds → Is K α F (.ref a) (.dct ks ds)
  | ins {a C dx : Addr} {fv : List (Str × V)} {fs : List Str} {ds : List D} : F a = some (.ins C dx fv) → fv.map (·.1) = fs → IsL K α F (fv.map (·.2)) ds → Is K α F (.ref a) (.ins C fs ds)
  | loc {a : Addr} {k : Nat} : α[k]? = some a → Is K α F (.ref a) (.loc k)
  | vv (x : V) : Is K α F x (.vv x)
inductive IsL (K : PySem.W.Frag) (α : List Addr) (F : Hp) : List V → List D → Prop
  | nil : IsL K α F [] []
  | cons {v : V} {vs : List V} {d : D} {ds : List D} : Is K α F v d → IsL K α F vs ds → IsL K α F (v :: vs) (d :: ds)
end

section
variable {K : PySem.W.Frag} {γ : Hp} {α α' : List Addr} {F F' H H' : Hp}
theorem rd_mono {a : Addr} {u : HO} (e : Same F F') (h : Rd F a u) : Rd F' a u := by
  rcases h with h | ⟨o, h⟩
  · exact .inl (e _ _ h)
  · exact .inr ⟨o, e _ _ h⟩
theorem sqt_mono {a : Addr} {xs : List V} (e : Same F F') (h : SqT K F a xs) : SqT K F' a xs := by
  rcases h with h | h
  · exact .inl (rd_mono e h)
  · exact .inr h
theorem rdd_mono {a : Addr} {kvs : List (Key × V)} (e : Same F F') (h : RdD F a kvs) : RdD F' a kvs := rd_mono e h
theorem fzd_mono {a : Addr} {kvs : List (Key × V)} (e : Same F F') (h : FzD F a kvs) : FzD F' a kvs := let ⟨o, h⟩ := h; ⟨o, e _ _ h⟩
theorem pre_get {k : Nat} {a : Addr} (p : α <+: α') (h : α[k]? = some a) : α'[k]? = some a := by
  obtain ⟨t, rfl⟩ := p
  rw [List.getElem?_append_left (List.getElem?_eq_some_iff.mp h).1]
  exact h
mutual
theorem Is.mono (p : α <+: α') (e : Same F F') : ∀ {v : V} {d : D}, Is K α F v d → Is K α' F' v d
  | _, _, .non => .non
  | _, _, .bl b => .bl b
  | _, _, .int i => .int i
  | _, _, .str s => .str s
  | _, _, .tup h l => .tup (sqt_mono e h) (IsL.mono p e l)
  | _, _, .lst h l => .lst (e _ _ h) (IsL.mono p e l)
  | _, _, .frl h l => .frl (e.seq h) (IsL.mono p e l)
  | _, _, .dct h q l => .dct (fzd_mono e h) q (IsL.mono p e l)
  | _, _, .ins h q l => .ins (e _ _ h) q (IsL.mono p e l)
  | _, _, .loc h => .loc (pre_get p h)
  | _, _, .vv x => .vv x
theorem IsL.mono (p : α <+: α') (e : Same F F') : ∀ {vs : List V} {ds : List D}, IsL K α F vs ds → IsL K α' F' vs ds
  | _, _, .nil => .nil
  | _, _, .cons h l => .cons (Is.mono p e h) (IsL.mono p e l)
end
theorem IsL.length : ∀ {vs : List V} {ds : List D}, IsL K α F vs ds → vs.length = ds.length
  | _, _, .nil => rfl
  | _, _, .cons _ l => by rw [List.length_cons, List.length_cons, IsL.length l]
theorem IsL.get : ∀ {vs : List V} {ds : List D} {i : Nat} {d : D}, IsL K α F vs ds → ds[i]? = some d → ∃ v, vs[i]? = some v ∧ Is K α F v d
  | _, _, _, _, .nil, e => by simp at e
  | _, _, 0, _, .cons h _, e => by simp at e; subst e; exact ⟨_, rfl, h⟩
  | _, _, i + 1, d, .cons _ l, e => by
    obtain ⟨v, h1, h2⟩ := IsL.get (i := i) (d := d) l (by simpa using e)
    exact ⟨v, by simpa using h1, h2⟩
theorem IsL.getV : ∀ {vs : List V} {ds : List D} {i : Nat} {v : V}, IsL K α F vs ds → vs[i]? = some v → ∃ d, ds[i]? = some d ∧ Is K α F v d
  | _, _, _, _, .nil, e => by simp at e
  | _, _, 0, _, .cons h _, e => by simp at e; subst e; exact ⟨_, rfl, h⟩
  | _, _, i + 1, v, .cons _ l, e => by
    obtain ⟨d, h1, h2⟩ := IsL.getV (i := i) (v := v) l (by simpa using e)
    exact ⟨d, by simpa using h1, h2⟩
theorem IsL.append : ∀ {vs ws : List V} {ds es : List D}, IsL K α F vs ds → IsL K α F ws es → IsL K α F (vs ++ ws) (ds ++ es)
  | _, _, _, _, .nil, m => m
  | _, _, _, _, .cons h l, m => .cons h (IsL.append l m)
theorem IsL.take : ∀ {vs : List V} {ds : List D} (n : Nat), IsL K α F vs ds → IsL K α F (vs.take n) (ds.take n)
  | _, _, 0, _ => .nil
  | _, _, _ + 1, .nil => .nil
  | _, _, n + 1, .cons h l => .cons h (IsL.take n l)
theorem IsL.drop : ∀ {vs : List V} {ds : List D} (n : Nat), IsL K α F vs ds → IsL K α F (vs.drop n) (ds.drop n)
  | _, _, 0, m => m
  | _, _, _ + 1, .nil => .nil
  | _, _, n + 1, .cons _ l => IsL.drop n l
theorem IsL.set {v : V} {d : D} (h : Is K α F v d) : ∀ {vs : List V} {ds : List D} (n : Nat), IsL K α F vs ds → IsL K α F (vs.set n v) (ds.set n d)
  | _, _, _, .nil => .nil
  | _, _, 0, .cons _ l => .cons h l
  | _, _, n + 1, .cons q l => .cons q (IsL.set h n l)
theorem IsL.ints : ∀ (ns : List Int), IsL K α F (ns.map V.int) (ns.map D.int)
  | [] => .nil
  | n :: r => .cons (.int n) (IsL.ints r)

/-! ### places that occur -/
mutual
def D.sc (n : Nat) : D → Bool
  | .tup xs => scL n xs
  | .lst xs => scL n xs
  | .frl xs => scL n xs
  | .dct _ xs => scL n xs
  | .ins _ _ xs => scL n xs
  | .loc k => decide (k < n)
  | _ => true
def scL (n : Nat) : List D → Bool
  | [] => true
  | x :: xs => x.sc n && scL n xs
end
def Ob.sc (n : Nat) : Ob → Bool
  | .lst xs => scL n xs
  | .dct _ xs => scL n xs
  | .ins _ _ xs => scL n xs
  | .dead => true
mutual
theorem Is.scoped : ∀ {v : V} {d : D}, Is K α F v d → d.sc α.length = true
  | _, _, .non => by simp [D.sc]
  | _, _, .bl b => by simp [D.sc]
  | _, _, .int i => by simp [D.sc]
  | _, _, .str s => by simp [D.sc]
  | _, _, .tup h l => by rw [D.sc]; exact IsL.scoped l
  | _, _, .lst h l => by rw [D.sc]; exact IsL.scoped l
  | _, _, .frl h l => by rw [D.sc]; exact IsL.scoped l
  | _, _, .dct h q l => by rw [D.sc]; exact IsL.scoped l
  | _, _, .ins h q l => by rw [D.sc]; exact IsL.scoped l
  | _, _, .loc h => by rw [D.sc]; exact decide_eq_true (List.getElem?_eq_some_iff.mp h).1
  | _, _, .vv x => by simp [D.sc]
theorem IsL.scoped : ∀ {vs : List V} {ds : List D}, IsL K α F vs ds → scL α.length ds = true
  | _, _, .nil => by simp [scL]
  | _, _, .cons h l => by rw [scL, Is.scoped h, IsL.scoped l]; rfl
end
mutual
theorem Is.cut {n : Nat} : ∀ {v : V} {d : D}, Is K α F v d → d.sc n = true → Is K (α.take n) F v d
  | _, _, .non, _ => .non
  | _, _, .bl b, _ => .bl b
  | _, _, .int i, _ => .int i
  | _, _, .str s, _ => .str s
  | _, _, .tup h l, e => .tup h (IsL.cut l (by rw [D.sc] at e; exact e))
  | _, _, .lst h l, e => .lst h (IsL.cut l (by rw [D.sc] at e; exact e))
  | _, _, .frl h l, e => .frl h (IsL.cut l (by rw [D.sc] at e; exact e))
  | _, _, .dct h q l, e => .dct h q (IsL.cut l (by rw [D.sc] at e; exact e))
  | _, _, .ins h q l, e => .ins h q (IsL.cut l (by rw [D.sc] at e; exact e))
  | _, _, .loc h, e => .loc (by rw [D.sc] at e; rw [List.getElem?_take_of_lt (of_decide_eq_true e)]; exact h)
  | _, _, .vv x, _ => .vv x
theorem IsL.cut {n : Nat} : ∀ {vs : List V} {ds : List D}, IsL K α F vs ds → scL n ds = true → IsL K (α.take n) F vs ds
  | _, _, .nil, _ => .nil
  | _, _, .cons h l, e => by
    rw [scL, Bool.and_eq_true] at e
    exact .cons (Is.cut h e.1) (IsL.cut l e.2)
end

/-! ### the store -/
def ObIs (K : PySem.W.Frag) (α : List Addr) (F H : Hp) (a : Addr) : Ob → Prop
  | .lst ds => ∃ vs, H a = some (.lst vs) ∧ IsL K α F vs ds
  | .dct ks ds => ∃ kvs, H a = some (.dK kvs) ∧ kvs.map (·.1) = ks ∧ IsL K α F (kvs.map (·.2)) ds
  | .ins C fs ds => ∃ dx fv, H a = some (.ins C dx fv) ∧ fv.map (·.1) = fs ∧ IsL K α F (fv.map (·.2)) ds
  | .dead => True
theorem ObIs.mono {a : Addr} {o : Ob} (p : α <+: α') (e : Same F F') (q : H' a = H a) (h : ObIs K α F H a o) : ObIs K α' F' H' a o := by
  cases o with
  | lst ds => obtain ⟨vs, h1, h2⟩ := h; exact ⟨vs, q.trans h1, h2.mono p e⟩
  | dct ks ds => obtain ⟨kvs, h1, h2, h3⟩ := h; exact ⟨kvs, q.trans h1, h2, h3.mono p e⟩
  | ins C fs ds => obtain ⟨dx, fv, h1, h2, h3⟩ := h; exact ⟨dx, fv, q.trans h1, h2, h3.mono p e⟩
  | dead => trivial
theorem ObIs.scoped {a : Addr} {o : Ob} (h : ObIs K α F H a o) : o.sc α.length = true := by
  cases o with
  | lst ds => obtain ⟨vs, h1, h2⟩ := h; exact h2.scoped
  | dct ks ds => obtain ⟨kvs, h1, h2, h3⟩ := h; exact h3.scoped
  | ins C fs ds => obtain ⟨dx, fv, h1, h2, h3⟩ := h; exact h3.scoped
  | dead => rfl
theorem ObIs.cut {a : Addr} {o : Ob} {n : Nat} (h : ObIs K α F H a o) (e : o.sc n = true) : ObIs K (α.take n) F H a o := by
  cases o with
  | lst ds => obtain ⟨vs, h1, h2⟩ := h; exact ⟨vs, h1, h2.cut e⟩
  | dct ks ds => obtain ⟨kvs, h1, h2, h3⟩ := h; exact ⟨kvs, h1, h2, h3.cut e⟩
  | ins C fs ds => obtain ⟨dx, fv, h1, h2, h3⟩ := h; exact ⟨dx, fv, h1, h2, h3.cut e⟩
  | dead => trivial

structure Wd (K : PySem.W.Frag) (γ : Hp) (α : List Addr) (F H : Hp) (μ : List Ob) : Prop where
  len : α.length = μ.length
  inj : ∀ (i j : Nat) a, α[i]? = some a → α[j]? = some a → i = j
  sub : Same F H
  there : ∀ (k : Nat) a, α[k]? = some a → H a ≠ none
  apart : ∀ (k : Nat) a o, α[k]? = some a → μ[k]? = some o → o ≠ .dead → F a = none
  obj : ∀ (k : Nat) a o, α[k]? = some a → μ[k]? = some o → ObIs K α F H a o
  gs : Same γ H
  gf : ∀ a, γ a ≠ none → F a = none
  ga : ∀ (k : Nat) a, α[k]? = some a → γ a = none

variable {μ : List Ob}
theorem ObIs.ne {a p : Addr} {o : Ob} (h : ObIs K α F H a o) (hd : o ≠ .dead) (hp : H p = none) : a ≠ p := by
  rintro rfl
  cases o with
  | lst ds => obtain ⟨vs, h1, h2⟩ := h; rw [hp] at h1; cases h1
  | dct ks ds => obtain ⟨kvs, h1, h2, h3⟩ := h; rw [hp] at h1; cases h1
  | ins C fs ds => obtain ⟨dx, fv, h1, h2, h3⟩ := h; rw [hp] at h1; cases h1
  | dead => exact hd rfl
theorem same_upd {p : Addr} {o : HO} (e : Same F H) (h : F p = none) : Same F (upd H p o) := fun b u hb => by
  rw [upd_ne (ne_of_none hb h)]
  exact e b u hb
theorem same_new {p : Addr} {o : HO} (h : F p = none) : Same F (upd F p o) := same_upd (Same.refl F) h
theorem same_both {p : Addr} {o : HO} (e : Same F H) : Same (upd F p o) (upd H p o) := fun b u hb => by
  by_cases hq : b = p
  · subst hq
    rw [upd_same] at hb ⊢
    exact hb
  · rw [upd_ne hq] at hb ⊢
    exact e b u hb
/-- something that stands still is laid -/
theorem Wd.lay {p : Addr} {o : HO} (w : Wd K γ α F H μ) (hp : H p = none) : Wd K γ α (upd F p o) (upd H p o) μ where
  len := w.len
  inj := w.inj
  sub := same_both w.sub
  there := fun k a h => by
    have := w.there k a h
    have ne : a ≠ p := fun e => this (by rw [e]; exact hp)
    rw [upd_ne ne]
    exact this
  apart := fun k a ob h1 h2 h3 => by
    rw [upd_ne ((w.obj k a ob h1 h2).ne h3 hp)]
    exact w.apart k a ob h1 h2 h3
  obj := fun k a ob h1 h2 => by
    have fp : F p = none := w.sub.free hp
    have ne : a ≠ p := fun e => w.there k a h1 (by rw [e]; exact hp)
    exact (w.obj k a ob h1 h2).mono (List.prefix_refl _) (same_new fp) (upd_ne ne)
  gs := same_upd w.gs (w.gs.free hp)
  gf := fun a h => by
    have ne : a ≠ p := fun e => h (by rw [e]; exact w.gs.free hp)
    rw [upd_ne ne]
    exact w.gf a h
  ga := w.ga
/-- .. that is not told -/
theorem Wd.lay0 {p : Addr} {o : HO} (w : Wd K γ α F H μ) (hp : H p = none) : Wd K γ α F (upd H p o) μ where
  len := w.len
  inj := w.inj
  sub := same_upd w.sub (w.sub.free hp)
  there := fun k a h => by
    have := w.there k a h
    have ne : a ≠ p := fun e => this (by rw [e]; exact hp)
    rw [upd_ne ne]
    exact this
  apart := w.apart
  obj := fun k a ob h1 h2 => by
    have ne : a ≠ p := fun e => w.there k a h1 (by rw [e]; exact hp)
    exact (w.obj k a ob h1 h2).mono (List.prefix_refl _) (Same.refl F) (upd_ne ne)
  gs := same_upd w.gs (w.gs.free hp)
  gf := w.gf
  ga := w.ga
/-- a new object of the store -/
theorem Wd.new {p : Addr} {o : HO} {ob : Ob} (w : Wd K γ α F H μ) (hp : H p = none) (h : ObIs K (α ++ [p]) F (upd H p o) p ob) : Wd K γ (α ++ [p]) F (upd H p o) (μ ++ [ob]) := by
  have fp : F p = none := w.sub.free hp
  have nin : ∀ k a, α[k]? = some a → a ≠ p := fun k a h1 e => w.there k a h1 (by rw [e]; exact hp)
  have spl : ∀ (k : Nat) a, (α ++ [p])[k]? = some a → α[k]? = some a ∨ (k = α.length ∧ a = p) := fun k a h1 => by
    by_cases hk : k < α.length
    · rw [List.getElem?_append_left hk] at h1
      exact .inl h1
    · have hl := (List.getElem?_eq_some_iff.mp h1).1
      rw [List.length_append, List.length_singleton] at hl
      have e : k = α.length := by omega
      subst e
      rw [List.getElem?_concat_length] at h1
      exact .inr ⟨rfl, (Option.some.inj h1).symm⟩
  refine ⟨by rw [List.length_append, List.length_append, w.len]; rfl, fun i j a h1 h2 => ?_, same_upd w.sub fp, fun k a h1 => ?_, fun k a ob' h1 h2 h3 => ?_, fun k a ob' h1 h2 => ?_, same_upd w.gs (w.gs.free hp), w.gf, fun k a h1 => ?_⟩
  · rcases spl i a h1 with x | ⟨x, y⟩ <;> rcases spl j a h2 with z | ⟨z, u⟩
    · exact w.inj i j a x z
    · exact absurd u (nin i a x)
    · exact absurd y (nin j a z)
    · rw [x, z]
  · rcases spl k a h1 with x | ⟨x, y⟩
    · rw [upd_ne (nin k a x)]
      exact w.there k a x
    · rw [y, upd_same]
      exact Option.some_ne_none _
  · rcases spl k a h1 with x | ⟨x, y⟩
    · have hk := (List.getElem?_eq_some_iff.mp x).1
      rw [w.len] at hk
      rw [List.getElem?_append_left hk] at h2
      exact w.apart k a ob' x h2 h3
    · rw [y]; exact fp
  · rcases spl k a h1 with x | ⟨x, y⟩
    · have hk := (List.getElem?_eq_some_iff.mp x).1
      rw [w.len] at hk
      rw [List.getElem?_append_left hk] at h2
      exact (w.obj k a ob' x h2).mono (List.prefix_append _ _) (Same.refl F) (upd_ne (nin k a x))
    · rw [x, w.len, List.getElem?_concat_length] at h2
      cases h2
      rw [y]
      exact h
  · rcases spl k a h1 with x | ⟨x, y⟩
    · exact w.ga k a x
    · rw [y]; exact w.gs.free hp
/-- an object of the store is changed -/
theorem Wd.put {a : Addr} {k : Nat} {o : HO} {ob ob' : Ob} (w : Wd K γ α F H μ) (ha : α[k]? = some a) (hk : μ[k]? = some ob) (hl : ob ≠ .dead) (h : ObIs K α F (upd H a o) a ob') : Wd K γ α F (upd H a o) (μ.set k ob') := by
  have fa : F a = none := w.apart k a ob ha hk hl
  have klt : k < μ.length := (List.getElem?_eq_some_iff.mp hk).1
  refine ⟨by rw [List.length_set]; exact w.len, w.inj, same_upd w.sub fa, fun j b h1 => ?_, fun j b ob2 h1 h2 h3 => ?_, fun j b ob2 h1 h2 => ?_, same_upd w.gs (w.ga k a ha), w.gf, w.ga⟩
  · by_cases e : b = a
    · rw [e, upd_same]; exact Option.some_ne_none _
    · rw [upd_ne e]; exact w.there j b h1
  · by_cases e : j = k
    · subst e
      rw [ha] at h1; cases h1
      exact fa
    · rw [List.getElem?_set_ne (Ne.symm e)] at h2
      exact w.apart j b ob2 h1 h2 h3
  · by_cases e : j = k
    · subst e
      rw [ha] at h1; cases h1
      rw [List.getElem?_set_self klt] at h2
      cases h2
      exact h
    · rw [List.getElem?_set_ne (Ne.symm e)] at h2
      have ne : b ≠ a := fun q => e (w.inj j k b h1 (by rw [q]; exact ha))
      exact (w.obj j b ob2 h1 h2).mono (List.prefix_refl _) (Same.refl F) (upd_ne ne)
/-- an object of the store stands still from now on -/
theorem Wd.frz {a : Addr} {k : Nat} {o : HO} {ob : Ob} (w : Wd K γ α F H μ) (ha : α[k]? = some a) (hk : μ[k]? = some ob) (hl : ob ≠ .dead) : Wd K γ α (upd F a o) (upd H a o) (μ.set k .dead) := by
  have fa : F a = none := w.apart k a ob ha hk hl
  have klt : k < μ.length := (List.getElem?_eq_some_iff.mp hk).1
  refine ⟨by rw [List.length_set]; exact w.len, w.inj, same_both w.sub, fun j b h1 => ?_, fun j b ob2 h1 h2 h3 => ?_, fun j b ob2 h1 h2 => ?_, same_upd w.gs (w.ga k a ha), fun b h1 => ?_, w.ga⟩
  · by_cases e : b = a
    · rw [e, upd_same]; exact Option.some_ne_none _
    · rw [upd_ne e]; exact w.there j b h1
  · by_cases e : j = k
    · subst e
      rw [List.getElem?_set_self klt] at h2
      cases h2
      exact absurd rfl h3
    · rw [List.getElem?_set_ne (Ne.symm e)] at h2
      have ne : b ≠ a := fun q => e (w.inj j k b h1 (by rw [q]; exact ha))
      rw [upd_ne ne]
      exact w.apart j b ob2 h1 h2 h3
  · by_cases e : j = k
    · subst e
      rw [List.getElem?_set_self klt] at h2
      cases h2
      trivial
    · rw [List.getElem?_set_ne (Ne.symm e)] at h2
      have ne : b ≠ a := fun q => e (w.inj j k b h1 (by rw [q]; exact ha))
      exact (w.obj j b ob2 h1 h2).mono (List.prefix_refl _) (same_new fa) (upd_ne ne)
  · have ne : b ≠ a := fun e => h1 (by rw [e]; exact w.ga k a ha)
    rw [upd_ne ne]
    exact w.gf b h1
theorem upd_id {a : Addr} {o : HO} (h : H a = some o) : upd H a o = H := by
  funext b
  by_cases e : b = a
  · rw [e, upd_same, h]
  · rw [upd_ne e]
/-- what was made on the way is forgotten -/
theorem Wd.cut {n : Nat} (w : Wd K γ α F H μ) (h : ∀ (k : Nat) o, k < n → μ[k]? = some o → o.sc n = true) : Wd K γ (α.take n) F H (μ.take n) := by
  have tk : ∀ (k : Nat) a, (α.take n)[k]? = some a → k < n ∧ α[k]? = some a := fun k a e => by
    have hl := (List.getElem?_eq_some_iff.mp e).1
    rw [List.length_take] at hl
    have hk : k < n := by omega
    rw [List.getElem?_take_of_lt hk] at e
    exact ⟨hk, e⟩
  refine ⟨by rw [List.length_take, List.length_take, w.len], fun i j a h1 h2 => w.inj i j a (tk i a h1).2 (tk j a h2).2, w.sub, fun k a h1 => w.there k a (tk k a h1).2, fun k a o h1 h2 h3 => ?_, fun k a o h1 h2 => ?_, w.gs, w.gf, fun k a h1 => w.ga k a (tk k a h1).2⟩
  · obtain ⟨hk, q⟩ := tk k a h1
    rw [List.getElem?_take_of_lt hk] at h2
    exact w.apart k a o q h2 h3
  · obtain ⟨hk, q⟩ := tk k a h1
    rw [List.getElem?_take_of_lt hk] at h2
    exact (w.obj k a o q h2).cut (h k o hk h2)
end
end DL

/-! The data layer, b: readings of expressions as functions. -/
namespace DL
open PySem L2

structure Exn where
  cls : Value
  fs : List Str
  xs : List D
inductive R (β : Type) where
  | ok (b : β) (μ : List Ob)
  | exc (x : Exn) (μ : List Ob)
  | bad
def R.bind {β τ : Type} (r : R β) (f : β → List Ob → R τ) : R τ := match r with
  | .ok b μ => f b μ
  | .exc x μ => .exc x μ
  | .bad => .bad
@[simp] theorem R.ok_bind {β τ : Type} (b : β) (μ : List Ob) (f : β → List Ob → R τ) : (R.ok b μ).bind f = f b μ := rfl
@[simp] theorem R.exc_bind {β τ : Type} (x : Exn) (μ : List Ob) (f : β → List Ob → R τ) : (R.exc x μ : R β).bind f = .exc x μ := rfl
@[simp] theorem R.bad_bind {β τ : Type} (f : β → List Ob → R τ) : (R.bad : R β).bind f = .bad := rfl

abbrev Sl := List (Option D)
abbrev RE := Sl → List Ob → R D
abbrev RT := Sl → List Ob → R Bool
abbrev RA := Sl → List Ob → R (List D)

structure SlIs (K : PySem.W.Frag) (α : List Addr) (F : Hp) (σ : St) (δ : Sl) : Prop where
  len : σ.length = δ.length
  at_ : ∀ (i : Nat) d, δ[i]? = some (some d) → ∃ v, σ[i]? = some (some v) ∧ Is K α F v d

section
variable {K : PySem.W.Frag} {γ : Hp} {α α' α1 : List Addr} {F F' F1 H H' : Hp} {σ : St} {δ : Sl} {μ : List Ob}
theorem SlIs.mono (s : SlIs K α F σ δ) (p : α <+: α') (e : Same F F') : SlIs K α' F' σ δ :=
  ⟨s.len, fun i d h => let ⟨v, h1, h2⟩ := s.at_ i d h; ⟨v, h1, h2.mono p e⟩⟩
theorem SlIs.set {v : V} {d : D} (s : SlIs K α F σ δ) (i : Nat) (h : Is K α F v d) : SlIs K α F (σ.set i (some v)) (δ.set i (some d)) := by
  refine ⟨by rw [List.length_set, List.length_set]; exact s.len, fun j e q => ?_⟩
  by_cases hj : j = i
  · subst hj
    have hl : j < δ.length := by
      have := (List.getElem?_eq_some_iff.mp q).1
      rw [List.length_set] at this
      exact this
    rw [List.getElem?_set_self hl] at q
    cases q
    exact ⟨v, List.getElem?_set_self (by rw [s.len]; exact hl), h⟩
  · rw [List.getElem?_set_ne (Ne.symm hj)] at q
    obtain ⟨u, h1, h2⟩ := s.at_ j e q
    exact ⟨u, by rw [List.getElem?_set_ne (Ne.symm hj)]; exact h1, h2⟩
theorem SlIs.unset (s : SlIs K α F σ δ) (i : Nat) : SlIs K α F (σ.set i none) (δ.set i none) := by
  refine ⟨by rw [List.length_set, List.length_set]; exact s.len, fun j e q => ?_⟩
  by_cases hj : j = i
  · subst hj
    have hl : j < δ.length := by
      have := (List.getElem?_eq_some_iff.mp q).1
      rw [List.length_set] at this
      exact this
    rw [List.getElem?_set_self hl] at q
    cases q
  · rw [List.getElem?_set_ne (Ne.symm hj)] at q
    obtain ⟨u, h1, h2⟩ := s.at_ j e q
    exact ⟨u, by rw [List.getElem?_set_ne (Ne.symm hj)]; exact h1, h2⟩
/-- the slots vs forgotten -/
def wipeD (δ : Sl) : List Nat → Sl
  | [] => δ
  | v :: vs => (wipeD δ vs).set v none
theorem SlIs.wipe (s : SlIs K α F σ δ) : ∀ vs : List Nat, SlIs K α F (L2.wipe σ vs) (wipeD δ vs)
  | [] => s
  | v :: vs => (SlIs.wipe s vs).unset v

/-- an exception as it lies -/
def XIs (K : PySem.W.Frag) (α : List Addr) (F : Hp) (x : Exn) (c : Value) (dd : Option Addr) : Prop :=
  c = x.cls ∧ ((dd = none ∧ x.fs = [] ∧ x.xs = []) ∨ ∃ d fv, dd = some d ∧ F d = some (.xd fv) ∧ fv.map (·.1) = x.fs ∧ IsL K α F (fv.map (·.2)) x.xs)
theorem XIs.mono {x : Exn} {c : Value} {dd : Option Addr} (h : XIs K α F x c dd) (p : α <+: α') (e : Same F F') : XIs K α' F' x c dd := by
  obtain ⟨h1, h2 | ⟨d, fv, h3, h4, h5, h6⟩⟩ := h
  · exact ⟨h1, .inl h2⟩
  · exact ⟨h1, .inr ⟨d, fv, h3, e _ _ h4, h5, h6.mono p e⟩⟩

/-- how a reading ends: ok's wish, an exception's wish -/
def Fin {β : Type} (K : PySem.W.Frag) (γ : Hp) (α : List Addr) (F : Hp) (r : R β) (ok : β → List Ob → List Addr → Hp → Hp → Prop) (E : XK) : Prop :=
  match r with
  | .ok b μ => ∀ α' F' H', α <+: α' → Same F F' → Wd K γ α' F' H' μ → ok b μ α' F' H'
  | .exc x μ => ∀ α' F' H' c dd, α <+: α' → Same F F' → Wd K γ α' F' H' μ → XIs K α' F' x c dd → E c dd H'
  | .bad => False
abbrev okD (K : PySem.W.Frag) (Q : VK) : D → List Ob → List Addr → Hp → Hp → Prop := fun d _ α' F' H' => ∀ v, Is K α' F' v d → Q v H'
abbrev okB (Q : Bool → Hp → Prop) : Bool → List Ob → List Addr → Hp → Hp → Prop := fun b _ _ _ H' => Q b H'
abbrev okL (K : PySem.W.Frag) (Q : List V → Hp → Prop) : List D → List Ob → List Addr → Hp → Hp → Prop := fun ds _ α' F' H' => ∀ vs, IsL K α' F' vs ds → Q vs H'
theorem Fin.up {β : Type} {r : R β} {ok : β → List Ob → List Addr → Hp → Hp → Prop} {E : XK} (p : α <+: α1) (e : Same F F1) (h : Fin K γ α F r ok E) : Fin K γ α1 F1 r ok E := by
  cases r with
  | ok b μ => exact fun α' F' H' p' e' w => h α' F' H' (p.trans p') (e.trans e') w
  | exc x μ => exact fun α' F' H' c dd p' e' w q => h α' F' H' c dd (p.trans p') (e.trans e') w q
  | bad => exact h

def tD (K : PySem.W.Frag) (W : WX) (f : RE) : TE := fun σ H Q => ∃ γ α F μ δ, Wd K γ α F H μ ∧ SlIs K α F σ δ ∧ Fin K γ α F (f δ μ) (okD K Q) (fun c dd H' => W c dd σ H')
def tDT (K : PySem.W.Frag) (W : WX) (f : RT) : TT := fun σ H Q => ∃ γ α F μ δ, Wd K γ α F H μ ∧ SlIs K α F σ δ ∧ Fin K γ α F (f δ μ) (okB Q) (fun c dd H' => W c dd σ H')
def tDA (K : PySem.W.Frag) (W : WX) (f : RA) : TA := fun σ H Q => ∃ γ α F μ δ, Wd K γ α F H μ ∧ SlIs K α F σ δ ∧ Fin K γ α F (f δ μ) (okL K Q) (fun c dd H' => W c dd σ H')

variable {W : WX}
/-- the step: what f gives is handed on -/
theorem tD_go {τ : Type} {f : RE} {g : D → List Ob → R τ} {ok : τ → List Ob → List Addr → Hp → Hp → Prop} {Q : VK} (w : Wd K γ α F H μ) (s : SlIs K α F σ δ) (q : Fin K γ α F ((f δ μ).bind g) ok (fun c dd H' => W c dd σ H'))
    (k : ∀ d μ1 α1 F1 H1 v, α <+: α1 → Same F F1 → Wd K γ α1 F1 H1 μ1 → SlIs K α1 F1 σ δ → Is K α1 F1 v d → Fin K γ α1 F1 (g d μ1) ok (fun c dd H' => W c dd σ H') → Q v H1) : tD K W f σ H Q := by
  refine ⟨γ, α, F, μ, δ, w, s, ?_⟩
  cases hf : f δ μ with
  | ok d μ1 =>
    rw [hf] at q
    exact fun α1 F1 H1 p e w1 v hv => k d μ1 α1 F1 H1 v p e w1 (s.mono p e) hv (q.up p e)
  | exc x μ1 =>
    rw [hf] at q
    exact q
  | bad =>
    rw [hf] at q
    exact q
theorem tDT_go {τ : Type} {f : RT} {g : Bool → List Ob → R τ} {ok : τ → List Ob → List Addr → Hp → Hp → Prop} {Q : Bool → Hp → Prop} (w : Wd K γ α F H μ) (s : SlIs K α F σ δ) (q : Fin K γ α F ((f δ μ).bind g) ok (fun c dd H' => W c dd σ H'))
    (k : ∀ b μ1 α1 F1 H1, α <+: α1 → Same F F1 → Wd K γ α1 F1 H1 μ1 → SlIs K α1 F1 σ δ → Fin K γ α1 F1 (g b μ1) ok (fun c dd H' => W c dd σ H') → Q b H1) : tDT K W f σ H Q := by
  refine ⟨γ, α, F, μ, δ, w, s, ?_⟩
  cases hf : f δ μ with
  | ok d μ1 =>
    rw [hf] at q
    exact fun α1 F1 H1 p e w1 => k d μ1 α1 F1 H1 p e w1 (s.mono p e) (q.up p e)
  | exc x μ1 =>
    rw [hf] at q
    exact q
  | bad =>
    rw [hf] at q
    exact q
theorem tDA_go {τ : Type} {f : RA} {g : List D → List Ob → R τ} {ok : τ → List Ob → List Addr → Hp → Hp → Prop} {Q : List V → Hp → Prop} (w : Wd K γ α F H μ) (s : SlIs K α F σ δ) (q : Fin K γ α F ((f δ μ).bind g) ok (fun c dd H' => W c dd σ H'))
    (k : ∀ ds μ1 α1 F1 H1 vs, α <+: α1 → Same F F1 → Wd K γ α1 F1 H1 μ1 → SlIs K α1 F1 σ δ → IsL K α1 F1 vs ds → Fin K γ α1 F1 (g ds μ1) ok (fun c dd H' => W c dd σ H') → Q vs H1) : tDA K W f σ H Q := by
  refine ⟨γ, α, F, μ, δ, w, s, ?_⟩
  cases hf : f δ μ with
  | ok d μ1 =>
    rw [hf] at q
    exact fun α1 F1 H1 p e w1 v hv => k d μ1 α1 F1 H1 v p e w1 (s.mono p e) hv (q.up p e)
  | exc x μ1 =>
    rw [hf] at q
    exact q
  | bad =>
    rw [hf] at q
    exact q
/-- .. the last step -/
theorem bind_pure {β : Type} (r : R β) : r.bind (fun b μ => .ok b μ) = r := by cases r <;> rfl

/-! ### an object looked at -/
def D.view (μ : List Ob) : D → D
  | .loc k => match μ[k]? with
    | some (.lst xs) => .lst xs
    | some (.dct ks xs) => .dct ks xs
    | some (.ins C fs xs) => .ins C fs xs
    | _ => .loc k
  | d => d
def Vw (K : PySem.W.Frag) (α : List Addr) (F H : Hp) (v : V) : D → Prop
  | .lst ds => ∃ a vs, v = .ref a ∧ H a = some (.lst vs) ∧ IsL K α F vs ds
  | .frl ds => ∃ a vs, v = .ref a ∧ SqL K H a vs ∧ IsL K α F vs ds
  | .tup ds => ∃ a vs, v = .ref a ∧ SqT K H a vs ∧ IsL K α F vs ds
  | .dct ks ds => ∃ a kvs, v = .ref a ∧ RdD H a kvs ∧ kvs.map (·.1) = ks ∧ IsL K α F (kvs.map (·.2)) ds
  | .ins C fs ds => ∃ a dx fv, v = .ref a ∧ H a = some (.ins C dx fv) ∧ fv.map (·.1) = fs ∧ IsL K α F (fv.map (·.2)) ds
  | d => Is K α F v d
theorem view_loc {k : Nat} : (D.loc k).view μ = match μ[k]? with
    | some (.lst xs) => .lst xs
    | some (.dct ks xs) => .dct ks xs
    | some (.ins C fs xs) => .ins C fs xs
    | _ => .loc k := rfl
theorem Wd.view (w : Wd K γ α F H μ) {v : V} {d : D} (h : Is K α F v d) : Vw K α F H v (d.view μ) := by
  cases h with
  | loc hk =>
    rename_i a k
    cases hm : μ[k]? with
    | none =>
      have e : (D.loc k).view μ = .loc k := by rw [view_loc, hm]
      rw [e]
      exact Is.loc hk
    | some o =>
      have ho := w.obj k a o hk hm
      cases o with
      | lst ds =>
        have e : (D.loc k).view μ = .lst ds := by rw [view_loc, hm]
        rw [e]
        obtain ⟨vs, h1, h2⟩ := ho
        exact ⟨a, vs, rfl, h1, h2⟩
      | dct ks ds =>
        have e : (D.loc k).view μ = .dct ks ds := by rw [view_loc, hm]
        rw [e]
        obtain ⟨kvs, h1, h2, h3⟩ := ho
        exact ⟨a, kvs, rfl, .inl h1, h2, h3⟩
      | ins C fs ds =>
        have e : (D.loc k).view μ = .ins C fs ds := by rw [view_loc, hm]
        rw [e]
        obtain ⟨dx, fv, h1, h2, h3⟩ := ho
        exact ⟨a, dx, fv, rfl, h1, h2, h3⟩
      | dead =>
        have e : (D.loc k).view μ = .loc k := by rw [view_loc, hm]
        rw [e]
        exact Is.loc hk
  | non => exact Is.non
  | bl b => exact Is.bl b
  | int i => exact Is.int i
  | str s => exact Is.str s
  | tup h l => exact ⟨_, _, rfl, sqt_mono w.sub h, l⟩
  | lst h l => exact ⟨_, _, rfl, w.sub _ _ h, l⟩
  | frl h l => exact ⟨_, _, rfl, w.sub.seq h, l⟩
  | dct h q l => exact ⟨_, _, rfl, (fzd_mono w.sub h).rd, q, l⟩
  | ins h q l => exact ⟨_, _, _, rfl, w.sub _ _ h, q, l⟩
  | vv => exact Is.vv _
theorem Is.toInt {v : V} {i : Int} (h : Is K α F v (.int i)) : v = .int i := by cases h; rfl
theorem Is.toStr {v : V} {i : Str} (h : Is K α F v (.str i)) : v = .str i := by cases h; rfl
theorem Is.toBl {v : V} {i : Bool} (h : Is K α F v (.bl i)) : v = .bl i := by cases h; rfl
theorem Is.toNon {v : V} (h : Is K α F v .non) : v = .non := by cases h; rfl
theorem Is.toVv {v x : V} (h : Is K α F v (.vv x)) : v = x := by cases h; rfl
end

/-! ### rules: expressions -/
theorem pe_weak {X : Cx} {e : Expr} {t t' : TE} (h : PE X e t) (i : ∀ σ H Q, t' σ H Q → t σ H Q) : PE X e t' := ⟨fun pins s σ H Q I q => h.run pins s σ H Q I (i _ _ _ q)⟩
theorem pt_weak {X : Cx} {e : Expr} {t t' : TT} (h : PT X e t) (i : ∀ σ H Q, t' σ H Q → t σ H Q) : PT X e t' := ⟨fun pins s σ H Q I q => h.run pins s σ H Q I (i _ _ _ q)⟩
theorem pw_weak {X : Cx} {e : Expr} {t t' : TT} (h : PW X e t) (i : ∀ σ H Q, t' σ H Q → t σ H Q) : PW X e t' := ⟨fun wh pins s σ H Q I q => h.run wh pins s σ H Q I (i _ _ _ q)⟩
theorem pa_weak {X : Cx} {e : List Expr} {t t' : TA} (h : PA X e t) (i : ∀ σ H Q, t' σ H Q → t σ H Q) : PA X e t' := ⟨fun pos pins s σ H Q I q => h.run pos pins s σ H Q I (i _ _ _ q)⟩
abbrev PD (X : Cx) (W : WX) (e : Expr) (f : RE) : Prop := PE X e (tD X.K W f)
abbrev PDT (X : Cx) (W : WX) (e : Expr) (f : RT) : Prop := PT X e (tDT X.K W f)
abbrev PDW (X : Cx) (W : WX) (e : Expr) (f : RT) : Prop := PW X e (tDT X.K W f)
abbrev PDA (X : Cx) (W : WX) (es : List Expr) (f : RA) : Prop := PA X es (tDA X.K W f)

section
variable {X : Cx} {W : WX} {a b c e : Expr} {es : List Expr} {fa fb fc f : RE} {ft fu : RT} {fs : RA} {pos p : Pos}

def rVar (i : Nat) : RE := fun δ μ => match δ[i]? with
  | some (some d) => .ok d μ
  | _ => .bad
def rC (d : D) : RE := fun _ μ => .ok d μ
theorem pd_var (i : Nat) {x : Str} (hN : X.N[i]? = some x := by rfl) (hv : Vis X.env.scope x := by first | exact Or.inl rfl | exact Or.inr (Or.inl rfl) | exact Or.inr (Or.inr rfl)) (hd : (x == ("__debug__" : Str)) = false := by decide)
    (hcd : (x == ("__classdict__" : Str)) = false := by decide) : PD X W (.Name x pos) (rVar i) :=
  pe_weak (pe_var hN hv hd hcd) fun σ H Q ⟨γ, α, F, μ, δ, w, s, q⟩ => by
    unfold rVar at q
    cases hd : δ[i]? with
    | none => rw [hd] at q; exact q.elim
    | some o =>
      cases o with
      | none => rw [hd] at q; exact q.elim
      | some d =>
        rw [hd] at q
        obtain ⟨v, h1, h2⟩ := s.at_ i d hd
        exact ⟨v, h1, q α F H (List.prefix_refl _) (Same.refl F) w v h2⟩
theorem pd_c {v : V} {d : D} (h : PE X e (tC v)) (hv : ∀ α F, Is X.K α F v d) : PD X W e (rC d) :=
  pe_weak h fun σ H Q ⟨γ, α, F, μ, δ, w, s, q⟩ => q α F H (List.prefix_refl _) (Same.refl F) w v (hv α F)
theorem pd_int {i : Int} {j : Nat} : PD X W (.Constant (.int i) j pos) (rC (.int i)) := pd_c pe_int fun _ _ => .int i
theorem pd_bl {i : Bool} {j : Nat} : PD X W (.Constant (.bool i) j pos) (rC (.bl i)) := pd_c pe_bl fun _ _ => .bl i
theorem pd_non {j : Nat} : PD X W (.Constant .none j pos) (rC .non) := pd_c pe_non fun _ _ => .non
theorem pd_str {i : Str} {j : Nat} : PD X W (.Constant (.str i) j pos) (rC (.str i)) := pd_c pe_str fun _ _ => .str i
/-- a module's constant -/
theorem pd_glob {x : Str} {v : V} {u : Value} {d : D} (hg : Gl X x) (hm : X.mg x = some u) (r : RelV v u) (hv : ∀ α F, Is X.K α F v d) (hd : (x == ("__debug__" : Str)) = false := by decide) : PD X W (.Name x pos) (rC d) :=
  pd_c (pe_glob hg hm r hd) hv
/-- a built-in's name as a value -/
theorem pd_bltn {x : Str} {v : V} {u : Value} (hg : Gl X x) (hm : X.mg x = none) (hv : bootBuiltins x = some u) (r : RelV v u) (hn : x ≠ "__name__" := by decide) (hd : (x == ("__debug__" : Str)) = false := by decide) : PD X W (.Name x pos) (rC (.vv v)) :=
  pd_c (pe_bltn hg hm hv r hn hd) fun _ _ => .vv v

/-- two values, then an operation on them -/
def rBin (g : D → D → List Ob → R D) (fa fb : RE) : RE := fun δ μ => (fa δ μ).bind fun d μ1 => (fb δ μ1).bind fun e μ2 => g d e μ2
def Op2 (K : PySem.W.Frag) (r : R2) (g : D → D → List Ob → R D) : Prop :=
  ∀ γ α F H μ x y d e Q E, Wd K γ α F H μ → Is K α F x d → Is K α F y e → Fin K γ α F (g d e μ) (okD K Q) E → r x y H Q
theorem tD_bin {K : PySem.W.Frag} {r : R2} {g : D → D → List Ob → R D} (h : Op2 K r g) (σ : St) (H : Hp) (Q : VK) : tD K W (rBin g fa fb) σ H Q → tOp r (tD K W fa) (tD K W fb) σ H Q := fun ⟨γ, α, F, μ, δ, w, s, q⟩ =>
  tD_go w s q fun d μ1 α1 F1 H1 x p1 e1 w1 s1 hx q1 => tD_go w1 s1 q1 fun e μ2 α2 F2 H2 y p2 e2 w2 s2 hy q2 =>
    h γ α2 F2 H2 μ2 x y d e Q _ w2 (hx.mono p2 e2) hy q2
theorem pd_bin {op : Operator} {r : R2} {g : D → D → List Ob → R D} (ho : OpR X (binaryOp op) r) (h : Op2 X.K r g) (ha : PD X W a fa) (hb : PD X W b fb) : PD X W (.BinOp a op b pos) (rBin g fa fb) :=
  pe_weak (pe_op ho ha hb) (tD_bin h)
theorem pd_cmp {op : CmpOp} {r : R2} {g : D → D → List Ob → R D} (ho : OpR X (compareOp op) r) (h : Op2 X.K r g) (hm : behindInMarks op b = false) (ha : PD X W a fa) (hb : PD X W b fb) : PD X W (.Compare a [op] [b] pos) (rBin g fa fb) :=
  pe_weak (pe_cmpR ho ha hb hm) (tD_bin h)
/-- a value as a test, a True or False -/
def rT (f : RE) : RT := fun δ μ => (f δ μ).bind fun d μ1 => match d with
  | .bl b => .ok b μ1
  | _ => .bad
theorem tDT_of {K : PySem.W.Frag} {t : TE} (h : ∀ σ H Q, tD K W f σ H Q → t σ H Q) (σ : St) (H : Hp) (Q : Bool → Hp → Prop) : tDT K W (rT f) σ H Q → tTest t σ H Q := fun ⟨γ, α, F, μ, δ, w, s, q⟩ =>
  h σ H _ (tD_go w s q fun d μ1 α1 F1 H1 x p1 e1 w1 s1 hx q1 => by
    cases d with
    | bl b => cases hx; exact ⟨b, rfl, q1 α1 F1 H1 (List.prefix_refl _) (Same.refl F1) w1⟩
    | _ => exact q1.elim)
theorem pdt_cmp {op : CmpOp} {r : R2} {g : D → D → List Ob → R D} (ho : OpR X (compareOp op) r) (h : Op2 X.K r g) (hm : behindInMarks op b = false) (ha : PD X W a fa) (hb : PD X W b fb) : PDT X W (.Compare a [op] [b] pos) (rT (rBin g fa fb)) :=
  pt_weak (pt_cmpR ho ha hb hm) (tDT_of (tD_bin h))
theorem pdt_val (h : PD X W e f) (he : ∀ whole, isTrue e X.env whole = (do let v ← whole; standAt e.pos; holding [v] (truthy v)) := by intro _; rfl) : PDT X W e (rT f) :=
  pt_weak (pt_val h he) (tDT_of fun _ _ _ q => q)
/-- a op1 b op2 c -/
def rChain (g g' : D → D → List Ob → R D) (fa fb fc : RE) : RE := fun δ μ => (fa δ μ).bind fun d μ1 => (fb δ μ1).bind fun e μ2 => (g d e μ2).bind fun z μ3 => match z with
  | .bl true => (fc δ μ3).bind fun k μ4 => g' e k μ4
  | .bl false => .ok (.bl false) μ3
  | _ => .bad
theorem tD_chain {K : PySem.W.Frag} {r r' : R2} {g g' : D → D → List Ob → R D} (h : Op2 K r g) (h' : Op2 K r' g') (hn : ∀ d e μ x μ', g d e μ ≠ .exc x μ') (σ : St) (H : Hp) (Q : VK) :
    tD K W (rChain g g' fa fb fc) σ H Q → tChain r r' (tD K W fa) (tD K W fb) (tD K W fc) σ H Q := fun ⟨γ, α, F, μ, δ, w, s, q⟩ =>
  tD_go w s q fun d μ1 α1 F1 H1 x p1 e1 w1 s1 hx q1 => tD_go w1 s1 q1 fun e μ2 α2 F2 H2 y p2 e2 w2 s2 hy q2 => by
    refine h γ α2 F2 H2 μ2 x y d e _ (fun _ _ _ => False) w2 (hx.mono p2 e2) hy ?_
    cases hg : g d e μ2 with
    | ok z μ3 =>
      rw [hg] at q2
      intro α3 F3 H3 p3 e3 w3 v hv
      have q3 := Fin.up p3 e3 q2
      cases z with
      | bl k =>
        cases hv
        refine ⟨k, rfl, ?_⟩
        cases k with
        | true =>
          rw [if_pos rfl]
          refine tD_go w3 (s2.mono p3 e3) q3 fun k μ4 α4 F4 H4 z p4 e4 w4 s4 hz q4 => ?_
          exact h' γ α4 F4 H4 μ4 y z e k Q _ w4 (hy.mono (p3.trans p4) (e3.trans e4)) hz q4
        | false =>
          rw [if_neg Bool.false_ne_true]
          exact q3 α3 F3 H3 (List.prefix_refl _) (Same.refl F3) w3 _ (.bl false)
      | _ => exact q3.elim
    | exc x μ3 => exact absurd hg (hn _ _ _ _ _)
    | bad => rw [hg] at q2; exact q2.elim
theorem pd_chain {op op' : CmpOp} {r r' : R2} {g g' : D → D → List Ob → R D} (ho : OpR X (compareOp op) r) (ho' : OpR X (compareOp op') r') (h : Op2 X.K r g) (h' : Op2 X.K r' g') (hn : ∀ d e μ x μ', g d e μ ≠ .exc x μ')
    (ha : PD X W a fa) (hb : PD X W b fb) (hc : PD X W c fc) (hm : lastMarks [op, op'] [b, c] = false := by with_unfolding_all rfl) : PD X W (.Compare a [op, op'] [b, c] pos) (rChain g g' fa fb fc) :=
  pe_weak (pe_chain ho ho' ha hb hc hm) (tD_chain h h' hn)
theorem pdt_chain {op op' : CmpOp} {r r' : R2} {g g' : D → D → List Ob → R D} (ho : OpR X (compareOp op) r) (ho' : OpR X (compareOp op') r') (h : Op2 X.K r g) (h' : Op2 X.K r' g') (hn : ∀ d e μ x μ', g d e μ ≠ .exc x μ')
    (ha : PD X W a fa) (hb : PD X W b fb) (hc : PD X W c fc) (hm : lastMarks [op, op'] [b, c] = false := by with_unfolding_all rfl) : PDT X W (.Compare a [op, op'] [b, c] pos) (rT (rChain g g' fa fb fc)) :=
  pt_weak (pt_chain ho ho' ha hb hc hm) (tDT_of (tD_chain h h' hn))

/-! ### and, or, not -/
def rAndT (t u : RT) : RT := fun δ μ => (t δ μ).bind fun k μ1 => match k with
  | true => u δ μ1
  | false => .ok false μ1
def rOrT (t u : RT) : RT := fun δ μ => (t δ μ).bind fun k μ1 => match k with
  | true => .ok true μ1
  | false => u δ μ1
def rNotT (t : RT) : RT := fun δ μ => (t δ μ).bind fun k μ1 => .ok (!k) μ1
theorem tDT_last {K : PySem.W.Frag} {γ : Hp} {α : List Addr} {F H : Hp} {μ : List Ob} {σ : St} {δ : Sl} {t : RT} {Q : Bool → Hp → Prop} (w : Wd K γ α F H μ) (s : SlIs K α F σ δ) (q : Fin K γ α F (t δ μ) (okB Q) (fun c dd H' => W c dd σ H')) : tDT K W t σ H Q := ⟨γ, α, F, μ, δ, w, s, q⟩
theorem tD_last {K : PySem.W.Frag} {γ : Hp} {α : List Addr} {F H : Hp} {μ : List Ob} {σ : St} {δ : Sl} {t : RE} {Q : VK} (w : Wd K γ α F H μ) (s : SlIs K α F σ δ) (q : Fin K γ α F (t δ μ) (okD K Q) (fun c dd H' => W c dd σ H')) : tD K W t σ H Q := ⟨γ, α, F, μ, δ, w, s, q⟩
theorem pdw_and1 (ha : PDT X W a ft) : PDW X W (.BoolOp .And [a] pos) ft := pw_and1 ha
theorem pdw_or1 (ha : PDT X W a ft) : PDW X W (.BoolOp .Or [a] pos) ft := pw_or1 ha
theorem pdw_and {rest : List Expr} (ha : PDT X W a ft) (hb : PDW X W (.BoolOp .And (b :: rest) pos) fu) : PDW X W (.BoolOp .And (a :: b :: rest) pos) (rAndT ft fu) :=
  pw_weak (pw_and ha hb) fun σ H Q ⟨γ, α, F, μ, δ, w, s, q⟩ => tDT_go w s q fun k μ1 α1 F1 H1 p1 e1 w1 s1 q1 => by
    cases k with
    | true => rw [if_pos rfl]; exact tDT_last w1 s1 q1
    | false => rw [if_neg Bool.false_ne_true]; exact q1 α1 F1 H1 (List.prefix_refl _) (Same.refl F1) w1
theorem pdw_or {rest : List Expr} (ha : PDT X W a ft) (hb : PDW X W (.BoolOp .Or (b :: rest) pos) fu) : PDW X W (.BoolOp .Or (a :: b :: rest) pos) (rOrT ft fu) :=
  pw_weak (pw_or ha hb) fun σ H Q ⟨γ, α, F, μ, δ, w, s, q⟩ => tDT_go w s q fun k μ1 α1 F1 H1 p1 e1 w1 s1 q1 => by
    cases k with
    | false => rw [if_neg Bool.false_ne_true]; exact tDT_last w1 s1 q1
    | true => rw [if_pos rfl]; exact q1 α1 F1 H1 (List.prefix_refl _) (Same.refl F1) w1
theorem pdt_w (h : PDW X W e ft) : PDT X W e ft := PW.pt h
theorem pdt_not (ha : PDT X W a ft) : PDT X W (.UnaryOp .Not a pos) (rNotT ft) :=
  pt_weak (pt_not ha) fun σ H Q ⟨γ, α, F, μ, δ, w, s, q⟩ => tDT_go w s q fun k μ1 α1 F1 H1 p1 e1 w1 s1 q1 => q1 α1 F1 H1 (List.prefix_refl _) (Same.refl F1) w1
/-- .. as values: all but the last True or False -/
def rAndV (fa fb : RE) : RE := fun δ μ => (fa δ μ).bind fun d μ1 => match d with
  | .bl true => fb δ μ1
  | .bl false => .ok (.bl false) μ1
  | _ => .bad
def rOrV (fa fb : RE) : RE := fun δ μ => (fa δ μ).bind fun d μ1 => match d with
  | .bl true => .ok (.bl true) μ1
  | .bl false => fb δ μ1
  | _ => .bad
def rNotV (fa : RE) : RE := fun δ μ => (fa δ μ).bind fun d μ1 => match d with
  | .bl k => .ok (.bl (!k)) μ1
  | _ => .bad
theorem pd_one {op : BoolOp} (h : PD X W a f) : PD X W (.BoolOp op [a] pos) f := pe_one h
theorem pd_and {rest : List Expr} (ha : PD X W a fa) (hb : PD X W (.BoolOp .And (b :: rest) pos) fb) : PD X W (.BoolOp .And (a :: b :: rest) pos) (rAndV fa fb) :=
  pe_weak (pe_and ha hb) fun σ H Q ⟨γ, α, F, μ, δ, w, s, q⟩ => tD_go w s q fun d μ1 α1 F1 H1 v p1 e1 w1 s1 hv q1 => by
    cases d with
    | bl k =>
      cases hv
      refine ⟨k, rfl, ?_⟩
      cases k with
      | true => rw [if_pos rfl]; exact tD_last w1 s1 q1
      | false => rw [if_neg Bool.false_ne_true]; exact q1 α1 F1 H1 (List.prefix_refl _) (Same.refl F1) w1 _ (.bl false)
    | _ => exact q1.elim
theorem pd_or {rest : List Expr} (ha : PD X W a fa) (hb : PD X W (.BoolOp .Or (b :: rest) pos) fb) : PD X W (.BoolOp .Or (a :: b :: rest) pos) (rOrV fa fb) :=
  pe_weak (pe_or ha hb) fun σ H Q ⟨γ, α, F, μ, δ, w, s, q⟩ => tD_go w s q fun d μ1 α1 F1 H1 v p1 e1 w1 s1 hv q1 => by
    cases d with
    | bl k =>
      cases hv
      refine ⟨k, rfl, ?_⟩
      cases k with
      | false => rw [if_neg Bool.false_ne_true]; exact tD_last w1 s1 q1
      | true => rw [if_pos rfl]; exact q1 α1 F1 H1 (List.prefix_refl _) (Same.refl F1) w1 _ (.bl true)
    | _ => exact q1.elim
theorem pd_not (ha : PD X W a fa) : PD X W (.UnaryOp .Not a pos) (rNotV fa) :=
  pe_weak (pe_not ha) fun σ H Q ⟨γ, α, F, μ, δ, w, s, q⟩ => tD_go w s q fun d μ1 α1 F1 H1 v p1 e1 w1 s1 hv q1 => by
    cases d with
    | bl k => cases hv; exact ⟨k, rfl, q1 α1 F1 H1 (List.prefix_refl _) (Same.refl F1) w1 _ (.bl _)⟩
    | _ => exact q1.elim
/-- a if t else b -/
def rIf (t : RT) (fa fb : RE) : RE := fun δ μ => (t δ μ).bind fun k μ1 => match k with
  | true => fa δ μ1
  | false => fb δ μ1
theorem pd_if (hc : PDT X W c ft) (ha : PD X W a fa) (hb : PD X W b fb) : PD X W (.IfExp c a b pos) (rIf ft fa fb) :=
  pe_weak (pe_ifExp hc ha hb) fun σ H Q ⟨γ, α, F, μ, δ, w, s, q⟩ => tDT_go w s q fun k μ1 α1 F1 H1 p1 e1 w1 s1 q1 => by
    cases k with
    | true => rw [if_pos rfl]; exact tD_last w1 s1 q1
    | false => rw [if_neg Bool.false_ne_true]; exact tD_last w1 s1 q1

/-! ### arguments, displays -/
def rNil : RA := fun _ μ => .ok [] μ
def rCons (fa : RE) (fs : RA) : RA := fun δ μ => (fa δ μ).bind fun d μ1 => (fs δ μ1).bind fun ds μ2 => .ok (d :: ds) μ2
theorem pda_nil : PDA X W [] rNil := pa_weak pa_nil fun σ H Q ⟨γ, α, F, μ, δ, w, s, q⟩ => q α F H (List.prefix_refl _) (Same.refl F) w [] .nil
theorem pda_cons (ha : PD X W e f) (hr : PDA X W es fs) (hs : starEach (e :: es) X.env = (false, eval e X.env) :: starEach es X.env := by rfl) : PDA X W (e :: es) (rCons f fs) :=
  pa_weak (pa_cons ha hr hs) fun σ H Q ⟨γ, α, F, μ, δ, w, s, q⟩ => tD_go w s q fun d μ1 α1 F1 H1 v p1 e1 w1 s1 hv q1 => tDA_go w1 s1 q1 fun ds μ2 α2 F2 H2 vs p2 e2 w2 s2 hvs q2 =>
    q2 α2 F2 H2 (List.prefix_refl _) (Same.refl F2) w2 _ (.cons (hv.mono p2 e2) hvs)
/-- (a, b, ..) -/
def rTup (fs : RA) : RE := fun δ μ => (fs δ μ).bind fun ds μ1 => if ds.length ≤ 16777216 then .ok (.tup ds) μ1 else .bad
/-- [a, b, ..] that nobody changes | that is changed -/
def rLst (fs : RA) : RE := fun δ μ => (fs δ μ).bind fun ds μ1 => if ds.length ≤ 16777216 then .ok (.lst ds) μ1 else .bad
def rLstM (fs : RA) : RE := fun δ μ => (fs δ μ).bind fun ds μ1 => if ds.length ≤ 16777216 then .ok (.loc μ1.length) (μ1 ++ [.lst ds]) else .bad
theorem pd_tup {n : Nat} (h : PDA X W es fs) : PD X W (.Tuple es n pos) (rTup fs) :=
  pe_weak (pe_tup h) fun σ H Q ⟨γ, α, F, μ, δ, w, s, q⟩ => tDA_go w s q fun ds μ1 α1 F1 H1 vs p1 e1 w1 s1 hv q1 => by
    by_cases hz : ds.length ≤ 16777216
    · rw [if_pos hz] at q1
      refine ⟨by rw [hv.length, sizeLine_eq]; exact hz, fun p hp => ?_⟩
      refine q1 α1 _ _ (List.prefix_refl _) (same_new (w1.sub.free hp)) (w1.lay (o := .tup vs) hp) _ (.tup (.inl (.inl upd_same)) (hv.mono (List.prefix_refl _) (same_new (w1.sub.free hp))))
    · rw [if_neg hz] at q1; exact q1.elim
theorem pd_lst (h : PDA X W es fs) : PD X W (.List es pos) (rLst fs) :=
  pe_weak (pe_lst h) fun σ H Q ⟨γ, α, F, μ, δ, w, s, q⟩ => tDA_go w s q fun ds μ1 α1 F1 H1 vs p1 e1 w1 s1 hv q1 => by
    by_cases hz : ds.length ≤ 16777216
    · rw [if_pos hz] at q1
      refine ⟨by rw [hv.length, sizeLine_eq]; exact hz, fun p hp => ?_⟩
      refine q1 α1 _ _ (List.prefix_refl _) (same_new (w1.sub.free hp)) (w1.lay (o := .lst vs) hp) _ (.lst upd_same (hv.mono (List.prefix_refl _) (same_new (w1.sub.free hp))))
    · rw [if_neg hz] at q1; exact q1.elim
theorem Wd.newAt {K : PySem.W.Frag} {γ : Hp} {α : List Addr} {F H : Hp} {μ : List Ob} (w : Wd K γ α F H μ) (p : Addr) : (α ++ [p])[μ.length]? = some p := by
  rw [← w.len, List.getElem?_concat_length]
theorem Wd.newLst {K : PySem.W.Frag} {γ : Hp} {α : List Addr} {F H : Hp} {μ : List Ob} {p : Addr} {vs : List V} {ds : List D} (w : Wd K γ α F H μ) (hp : H p = none) (h : IsL K α F vs ds) : Wd K γ (α ++ [p]) F (upd H p (.lst vs)) (μ ++ [.lst ds]) :=
  w.new hp ⟨vs, upd_same, h.mono (List.prefix_append _ _) (Same.refl F)⟩
theorem pd_lstM (h : PDA X W es fs) : PD X W (.List es pos) (rLstM fs) :=
  pe_weak (pe_lst h) fun σ H Q ⟨γ, α, F, μ, δ, w, s, q⟩ => tDA_go w s q fun ds μ1 α1 F1 H1 vs p1 e1 w1 s1 hv q1 => by
    by_cases hz : ds.length ≤ 16777216
    · rw [if_pos hz] at q1
      refine ⟨by rw [hv.length, sizeLine_eq]; exact hz, fun p hp => ?_⟩
      exact q1 (α1 ++ [p]) F1 _ (List.prefix_append _ _) (Same.refl F1) (w1.newLst hp hv) _ (.loc (w1.newAt p))
    · rw [if_neg hz] at q1; exact q1.elim
end
end DL

/-! The data layer, c: operations on data. -/
namespace DL
open PySem L2

/-! ### data as the library's plain data -/
mutual
def D.py : D → PyData
  | .non => .none
  | .bl b => .bool b
  | .int i => .int i
  | .str s => .str s
  | .tup xs => .tuple (pyL xs)
  | .lst xs => .list (pyL xs)
  | .frl xs => .list (pyL xs)
  | _ => .dict []
def pyL : List D → List PyData
  | [] => []
  | x :: xs => x.py :: pyL xs
end
/- plain data of at most this depth -/
mutual
def D.okd : Nat → D → Bool
  | _, .non => true
  | _, .bl _ => true
  | _, .int _ => true
  | _, .str s => PyData.strOk s
  | n, .tup xs => match n with
    | 0 => false
    | n + 1 => okdL n xs
  | n, .lst xs => match n with
    | 0 => false
    | n + 1 => okdL n xs
  | n, .frl xs => match n with
    | 0 => false
    | n + 1 => okdL n xs
  | _, _ => false
def okdL : Nat → List D → Bool
  | _, [] => true
  | n, x :: xs => D.okd n x && okdL n xs
end
/- == -/
mutual
def D.eqb : D → D → Bool
  | .non, .non => true
  | .bl a, .bl b => a == b
  | .bl a, .int j => (if a then 1 else 0) == j
  | .int i, .bl b => i == (if b then 1 else 0)
  | .int i, .int j => i == j
  | .str x, .str y => x == y
  | .lst xs, .lst ys => eqbL xs ys
  | .lst xs, .frl ys => eqbL xs ys
  | .frl xs, .lst ys => eqbL xs ys
  | .frl xs, .frl ys => eqbL xs ys
  | .tup xs, .tup ys => eqbL xs ys
  | _, _ => false
def eqbL : List D → List D → Bool
  | [], [] => true
  | x :: xs, y :: ys => D.eqb x y && eqbL xs ys
  | _, _ => false
end
mutual
theorem eqb_eqv : ∀ (n : Nat) (d e : D), d.okd n = true → e.okd n = true → PyData.eqv d.py e.py = d.eqb e
  | n, d, e, hd, he => by
    cases d <;> cases e <;> first
      | (simp only [D.okd] at hd he; exact absurd hd Bool.false_ne_true)
      | (simp only [D.okd] at hd he; exact absurd he Bool.false_ne_true)
      | (simp only [D.py, PyData.eqv, D.eqb]; done)
      | (cases n with
         | zero => (first | (simp only [D.okd] at hd; exact absurd hd Bool.false_ne_true))
         | succ n =>
           simp only [D.okd] at hd he
           simp only [D.py, PyData.eqv, D.eqb]
           exact eqbL_eqv n _ _ hd he)
theorem eqbL_eqv : ∀ (n : Nat) (d e : List D), okdL n d = true → okdL n e = true → PyData.eqvAll (pyL d) (pyL e) = eqbL d e
  | _, [], [], _, _ => rfl
  | n, x :: xs, y :: ys, hd, he => by
    rw [okdL, Bool.and_eq_true] at hd he
    rw [pyL, pyL, PyData.eqvAll, eqbL, eqb_eqv n x y hd.1 he.1, eqbL_eqv n xs ys hd.2 he.2]
  | _, [], _ :: _, _, _ => by simp only [pyL, PyData.eqvAll, eqbL]
  | _, _ :: _, [], _, _ => by simp only [pyL, PyData.eqvAll, eqbL]
end
mutual
theorem okd_shaped : ∀ (n : Nat) (d : D), d.okd n = true → d.py.canLay0 = true ∧ d.py.depth ≤ n
  | _, .non, _ => by simp [D.py, PyData.canLay0, PyData.depth]
  | _, .bl b, _ => by simp [D.py, PyData.canLay0, PyData.depth]
  | _, .int b, _ => by simp [D.py, PyData.canLay0, PyData.depth]
  | _, .str b, h => by
    simp only [D.okd] at h
    simp [D.py, PyData.canLay0, PyData.depth, h]
  | 0, .tup xs, h => by simp only [D.okd] at h; exact absurd h Bool.false_ne_true
  | 0, .lst xs, h => by simp only [D.okd] at h; exact absurd h Bool.false_ne_true
  | 0, .frl xs, h => by simp only [D.okd] at h; exact absurd h Bool.false_ne_true
  | n + 1, .tup xs, h => by
    simp only [D.okd] at h
    have := okdL_shaped n xs h
    rw [D.py, PyData.canLay0, PyData.depth]
    exact ⟨this.1, by omega⟩
  | n + 1, .lst xs, h => by
    simp only [D.okd] at h
    have := okdL_shaped n xs h
    rw [D.py, PyData.canLay0, PyData.depth]
    exact ⟨this.1, by omega⟩
  | n + 1, .frl xs, h => by
    simp only [D.okd] at h
    have := okdL_shaped n xs h
    rw [D.py, PyData.canLay0, PyData.depth]
    exact ⟨this.1, by omega⟩
  | _, .dct _ _, h => by simp only [D.okd] at h; exact absurd h Bool.false_ne_true
  | _, .ins _ _ _, h => by simp only [D.okd] at h; exact absurd h Bool.false_ne_true
  | _, .loc _, h => by simp only [D.okd] at h; exact absurd h Bool.false_ne_true
  | _, .vv _, h => by simp only [D.okd] at h; exact absurd h Bool.false_ne_true
theorem okdL_shaped : ∀ (n : Nat) (d : List D), okdL n d = true → PyData.canLayAll0 (pyL d) = true ∧ PyData.depthAll (pyL d) ≤ n
  | _, [], _ => ⟨by simp only [pyL, PyData.canLayAll0], by simp [pyL, PyData.depthAll]⟩
  | n, x :: xs, h => by
    rw [okdL, Bool.and_eq_true] at h
    have h1 := okd_shaped n x h.1
    have h2 := okdL_shaped n xs h.2
    refine ⟨by rw [pyL, PyData.canLayAll0, h1.1, h2.1]; rfl, ?_⟩
    rw [pyL, PyData.depthAll]
    exact Nat.max_le.mpr ⟨h1.2, h2.2⟩
end
theorem okd_sh {n : Nat} {d : D} (h : d.okd n = true) (hn : n ≤ 64) : SeqAt.shaped d.py = true := by
  obtain ⟨h1, h2⟩ := okd_shaped n d h
  unfold SeqAt.shaped
  rw [h1, decide_eq_true (by omega)]
  rfl
section
variable {K : PySem.W.Frag} {γ : Hp} {α : List Addr} {F H : Hp} {μ : List Ob}
mutual
theorem Is.dp : ∀ (n : Nat) {v : V} {d : D}, Is K α F v d → d.okd n = true → Dp K F v d.py
  | _, _, _, .non, _ => by rw [D.py]; exact .non
  | _, _, _, .bl b, _ => by rw [D.py]; exact .bl b
  | _, _, _, .int i, _ => by rw [D.py]; exact .int i
  | _, _, _, .str s, _ => by rw [D.py]; exact .str s
  | 0, _, _, .tup h l, e => by simp only [D.okd] at e; exact absurd e Bool.false_ne_true
  | n + 1, _, _, .tup h l, e => by rw [D.py]; exact .tup h (IsL.dp n l (by simp only [D.okd] at e; exact e))
  | 0, _, _, .lst h l, e => by simp only [D.okd] at e; exact absurd e Bool.false_ne_true
  | n + 1, _, _, .lst h l, e => by rw [D.py]; exact .lst (.inl (.inl h)) (IsL.dp n l (by simp only [D.okd] at e; exact e))
  | 0, _, _, .frl h l, e => by simp only [D.okd] at e; exact absurd e Bool.false_ne_true
  | n + 1, _, _, .frl h l, e => by rw [D.py]; exact .lst h (IsL.dp n l (by simp only [D.okd] at e; exact e))
  | _, _, _, .dct h q l, e => by simp only [D.okd] at e; exact absurd e Bool.false_ne_true
  | _, _, _, .ins h q l, e => by simp only [D.okd] at e; exact absurd e Bool.false_ne_true
  | _, _, _, .loc h, e => by simp only [D.okd] at e; exact absurd e Bool.false_ne_true
  | _, _, _, .vv x, e => by simp only [D.okd] at e; exact absurd e Bool.false_ne_true
theorem IsL.dp : ∀ (n : Nat) {vs : List V} {ds : List D}, IsL K α F vs ds → okdL n ds = true → DpAll K F vs (pyL ds)
  | _, _, _, .nil, _ => .nil
  | n, _, _, .cons h l, e => by
    rw [okdL, Bool.and_eq_true] at e
    exact .cons (Is.dp n h e.1) (IsL.dp n l e.2)
end
mutual
theorem dp_mono {F H : Hp} (s : Same F H) : ∀ {v : V} {d : PyData}, Dp K F v d → Dp K H v d
  | _, _, .non => .non
  | _, _, .bl b => .bl b
  | _, _, .int b => .int b
  | _, _, .str b => .str b
  | _, _, .lst h l => .lst (s.seq h) (dpAll_mono s l)
  | _, _, .tup h l => .tup (sqt_mono s h) (dpAll_mono s l)
theorem dpAll_mono {F H : Hp} (s : Same F H) : ∀ {vs : List V} {ds : List PyData}, DpAll K F vs ds → DpAll K H vs ds
  | _, _, .nil => .nil
  | _, _, .cons h l => .cons (dp_mono s h) (dpAll_mono s l)
end
/-- what is looked at, as plain data -/
theorem Wd.dp (w : Wd K γ α F H μ) {n : Nat} {v : V} {d : D} (h : Is K α F v d) (e : (d.view μ).okd n = true) : Dp K H v (d.view μ).py := by
  have q := w.view h
  cases hv : d.view μ with
  | lst ds =>
    rw [hv] at q e
    obtain ⟨a, vs, rfl, h1, h2⟩ := q
    cases n with
    | zero => simp only [D.okd] at e; exact absurd e Bool.false_ne_true
    | succ n => rw [D.py]; exact .lst (.inl (.inl h1)) (dpAll_mono w.sub (h2.dp n (by simp only [D.okd] at e; exact e)))
  | frl ds =>
    rw [hv] at q e
    obtain ⟨a, vs, rfl, h1, h2⟩ := q
    cases n with
    | zero => simp only [D.okd] at e; exact absurd e Bool.false_ne_true
    | succ n => rw [D.py]; exact .lst h1 (dpAll_mono w.sub (h2.dp n (by simp only [D.okd] at e; exact e)))
  | tup ds =>
    rw [hv] at q e
    obtain ⟨a, vs, rfl, h1, h2⟩ := q
    cases n with
    | zero => simp only [D.okd] at e; exact absurd e Bool.false_ne_true
    | succ n => rw [D.py]; exact .tup h1 (dpAll_mono w.sub (h2.dp n (by simp only [D.okd] at e; exact e)))
  | non => rw [hv] at q e; exact dp_mono w.sub (Is.dp n q e)
  | bl => rw [hv] at q e; exact dp_mono w.sub (Is.dp n q e)
  | int => rw [hv] at q e; exact dp_mono w.sub (Is.dp n q e)
  | str => rw [hv] at q e; exact dp_mono w.sub (Is.dp n q e)
  | _ => rw [hv] at e; simp only [D.okd] at e; exact absurd e Bool.false_ne_true
theorem view_int {d : D} {i : Int} (h : d.view μ = .int i) : d = .int i := by
  cases d with
  | loc k => rw [view_loc] at h; split at h <;> cases h
  | _ => first | exact h | cases h
theorem view_str {d : D} {i : Str} (h : d.view μ = .str i) : d = .str i := by
  cases d with
  | loc k => rw [view_loc] at h; split at h <;> cases h
  | _ => first | exact h | cases h
theorem view_tup {d : D} {i : List D} (h : d.view μ = .tup i) : d = .tup i := by
  cases d with
  | loc k => rw [view_loc] at h; split at h <;> cases h
  | _ => first | exact h | cases h

/-! ### == -/
def eqD (d e : D) (μ : List Ob) : R D := if (d.view μ).okd 60 && (e.view μ).okd 60 then .ok (.bl ((d.view μ).eqb (e.view μ))) μ else .bad
def neD (d e : D) (μ : List Ob) : R D := if (d.view μ).okd 60 && (e.view μ).okd 60 then .ok (.bl (!(d.view μ).eqb (e.view μ))) μ else .bad
theorem op2_eq : Op2 K (rEqD K) eqD := fun γ α F H μ x y d e Q E w hx hy q => by
  unfold eqD at q
  by_cases h : ((d.view μ).okd 60 && (e.view μ).okd 60) = true
  · rw [if_pos h] at q
    rw [Bool.and_eq_true] at h
    refine ⟨_, _, w.dp hx h.1, w.dp hy h.2, okd_sh h.1 (by decide), okd_sh h.2 (by decide), ?_⟩
    rw [eqb_eqv 60 _ _ h.1 h.2]
    exact q α F H (List.prefix_refl _) (Same.refl F) w _ (.bl _)
  · rw [if_neg h] at q; exact q.elim
theorem op2_ne : Op2 K (rNeD K) neD := fun γ α F H μ x y d e Q E w hx hy q => by
  unfold neD at q
  by_cases h : ((d.view μ).okd 60 && (e.view μ).okd 60) = true
  · rw [if_pos h] at q
    rw [Bool.and_eq_true] at h
    refine ⟨_, _, w.dp hx h.1, w.dp hy h.2, okd_sh h.1 (by decide), okd_sh h.2 (by decide), ?_⟩
    rw [eqb_eqv 60 _ _ h.1 h.2]
    exact q α F H (List.prefix_refl _) (Same.refl F) w _ (.bl _)
  · rw [if_neg h] at q; exact q.elim

/-! ### is None -/
def isN (d e : D) (μ : List Ob) : R D := match e with
  | .non => match d with
    | .vv _ => .bad
    | .non => .ok (.bl true) μ
    | _ => .ok (.bl false) μ
  | _ => .bad
def isNotN (d e : D) (μ : List Ob) : R D := match e with
  | .non => match d with
    | .vv _ => .bad
    | .non => .ok (.bl false) μ
    | _ => .ok (.bl true) μ
  | _ => .bad
theorem op2_isN : Op2 K (fun x y H Q => y = .non ∧ Q (.bl (decide (x = .non))) H) isN := fun γ α F H μ x y d e Q E w hx hy q => by
  cases e <;> try exact q.elim
  cases hy
  refine ⟨rfl, ?_⟩
  cases hx <;> first | exact q α F H (List.prefix_refl _) (Same.refl F) w _ (.bl _) | exact q.elim
theorem op2_notN : Op2 K (fun x y H Q => y = .non ∧ Q (.bl (!decide (x = .non))) H) isNotN := fun γ α F H μ x y d e Q E w hx hy q => by
  cases e <;> try exact q.elim
  cases hy
  refine ⟨rfl, ?_⟩
  cases hx <;> first | exact q α F H (List.prefix_refl _) (Same.refl F) w _ (.bl _) | exact q.elim

/-! ### ints -/
def intB (g : Int → Int → Bool) (d e : D) (μ : List Ob) : R D := match d, e with
  | .int i, .int j => .ok (.bl (g i j)) μ
  | _, _ => .bad
theorem op2_intB {g : Int → Int → Bool} : Op2 K (rI0 fun i j => .bl (g i j)) (intB g) := fun γ α F H μ x y d e Q E w hx hy q => by
  cases d <;> try exact q.elim
  cases e <;> try exact q.elim
  cases hx; cases hy
  exact ⟨_, _, rfl, rfl, q α F H (List.prefix_refl _) (Same.refl F) w _ (.bl _)⟩
abbrev ltD := intB fun i j => decide (i < j)
abbrev leD := intB fun i j => decide (i ≤ j)
abbrev gtD := intB fun i j => decide (j < i)
abbrev geD := intB fun i j => decide (j ≤ i)
theorem intB_noexc {g : Int → Int → Bool} (d e : D) (μ : List Ob) (x : Exn) (μ' : List Ob) : intB g d e μ ≠ .exc x μ' := by
  cases d <;> cases e <;> exact fun h => nomatch h
def intI (C : Int → Int → Bool) (g : Int → Int → Int) (d e : D) (μ : List Ob) : R D := match d, e with
  | .int i, .int j => if C i j then .ok (.int (g i j)) μ else .bad
  | _, _ => .bad
theorem op2_intI {C : Int → Int → Bool} {P : Int → Int → Prop} {g : Int → Int → Int} (h : ∀ i j, C i j = true → P i j) : Op2 K (rI P fun i j => .int (g i j)) (intI C g) := fun γ α F H μ x y d e Q E w hx hy q => by
  cases d <;> try exact q.elim
  cases e <;> try exact q.elim
  rename_i i j
  cases hx; cases hy
  unfold intI at q
  dsimp only at q
  by_cases hc : C i j = true
  · rw [if_pos hc] at q
    exact ⟨i, j, rfl, rfl, h i j hc, q α F H (List.prefix_refl _) (Same.refl F) w _ (.int _)⟩
  · rw [if_neg hc] at q; exact q.elim
def intI0 (g : Int → Int → Int) (d e : D) (μ : List Ob) : R D := match d, e with
  | .int i, .int j => .ok (.int (g i j)) μ
  | _, _ => .bad
theorem op2_intI0 {g : Int → Int → Int} : Op2 K (rI0 fun i j => .int (g i j)) (intI0 g) := fun γ α F H μ x y d e Q E w hx hy q => by
  cases d <;> try exact q.elim
  cases e <;> try exact q.elim
  cases hx; cases hy
  exact ⟨_, _, rfl, rfl, q α F H (List.prefix_refl _) (Same.refl F) w _ (.int _)⟩
abbrev subD := intI0 fun i j => i - j
def mulC (i j : Int) : Bool := (decide (-(2 ^ 64) < i) && decide (i < 2 ^ 64)) || (decide (-(2 ^ 64) < j) && decide (j < 2 ^ 64))
abbrev mulD := intI mulC fun i j => i * j
theorem op2_mul : Op2 K (rI CMul fun i j => .int (i * j)) mulD := op2_intI fun i j h => by
  unfold mulC at h
  rw [Bool.or_eq_true, Bool.and_eq_true, Bool.and_eq_true, decide_eq_true_eq, decide_eq_true_eq, decide_eq_true_eq, decide_eq_true_eq] at h
  exact h
abbrev divD := intI (fun _ j => decide (0 < j) && decide (j < 1073741824)) fun i j => i / j
theorem op2_div : Op2 K (rI CDiv fun i j => .int (i / j)) divD := op2_intI fun i j h => by
  rw [Bool.and_eq_true, decide_eq_true_eq, decide_eq_true_eq] at h
  exact h
abbrev modD := intI (fun _ j => decide (0 < j)) fun i j => i % j
theorem op2_mod : Op2 K (rI (fun _ j => 0 < j) fun i j => .int (i % j)) modD := op2_intI fun i j h => of_decide_eq_true h
abbrev powD := intI (fun i j => decide (0 ≤ j) && (decide (j ≤ 1000000) && decide (i.natAbs < 2 ^ 64))) fun i j => i ^ j.toNat
theorem op2_pow : Op2 K (rI CPow fun i j => .int (i ^ j.toNat)) powD := op2_intI fun i j h => by
  rw [Bool.and_eq_true, Bool.and_eq_true, decide_eq_true_eq, decide_eq_true_eq, decide_eq_true_eq] at h
  exact h

/-! ### + -/
def addD (d e : D) (μ : List Ob) : R D := match d.view μ, e.view μ with
  | .int i, .int j => .ok (.int (i + j)) μ
  | .str x, .str y => if x.length + y.length ≤ 16777216 then .ok (.str (x ++ y)) μ else .bad
  | .lst xs, .lst ys => if xs.length + ys.length ≤ 16777216 then .ok (.lst (xs ++ ys)) μ else .bad
  | .tup xs, .tup ys => if xs.length + ys.length ≤ 16777216 then .ok (.tup (xs ++ ys)) μ else .bad
  | _, _ => .bad
def rAddA (K : PySem.W.Frag) : R2 := fun x y H Q => (rI0 fun i j => .int (i + j)) x y H Q ∨ (∃ i j, x = .str i ∧ y = .str j ∧ i.length + j.length ≤ sizeLine ∧ Q (.str (i ++ j)) H) ∨ rCat x y H Q ∨ rCatA K x y H Q
theorem op_addA {X : Cx} : OpR X (binaryOp .Add) (rAddA X.K) := OpR.or op_add (OpR.or op_add_str (OpR.or op_cat op_catA))
theorem op2_add : Op2 K (rAddA K) addD := fun γ α F H μ x y d e Q E w hx hy q => by
  unfold addD at q
  have vx := w.view hx
  have vy := w.view hy
  split at q
  · rename_i i j hd he
    rw [view_int hd] at hx
    rw [view_int he] at hy
    cases hx; cases hy
    exact .inl ⟨i, j, rfl, rfl, q α F H (List.prefix_refl _) (Same.refl F) w _ (.int _)⟩
  · rename_i i j hd he
    rw [view_str hd] at hx
    rw [view_str he] at hy
    cases hx; cases hy
    by_cases hz : i.length + j.length ≤ 16777216
    · rw [if_pos hz] at q
      exact .inr (.inl ⟨i, j, rfl, rfl, by rw [sizeLine_eq]; exact hz, q α F H (List.prefix_refl _) (Same.refl F) w _ (.str _)⟩)
    · rw [if_neg hz] at q; exact q.elim
  · rename_i xs ys hd he
    rw [hd] at vx
    rw [he] at vy
    obtain ⟨a, vs, rfl, h1, h2⟩ := vx
    obtain ⟨b, ws, rfl, h3, h4⟩ := vy
    by_cases hz : xs.length + ys.length ≤ 16777216
    · rw [if_pos hz] at q
      refine .inr (.inr (.inl ⟨a, b, vs, ws, rfl, rfl, h1, h3, by rw [sizeLine_eq, h2.length, h4.length]; exact hz, fun p hp => ?_⟩))
      have sn := same_new (o := .lst (vs ++ ws)) (w.sub.free hp)
      exact q α _ _ (List.prefix_refl _) sn (w.lay hp) _ (.lst upd_same ((h2.append h4).mono (List.prefix_refl _) sn))
    · rw [if_neg hz] at q; exact q.elim
  · rename_i xs ys hd he
    rw [view_tup hd] at hx
    rw [view_tup he] at hy
    cases hx with
    | tup ha la =>
    cases hy with
    | tup hb lb =>
    rename_i a vs b ws
    by_cases hz : xs.length + ys.length ≤ 16777216
    · rw [if_pos hz] at q
      refine .inr (.inr (.inr ⟨a, b, vs, ws, rfl, rfl, sqt_mono w.sub ha, sqt_mono w.sub hb, by rw [sizeLine_eq, la.length, lb.length]; exact hz, fun e0 => ?_, fun n0 e0 => ?_, fun n0 n1 p hp => ?_⟩))
      · subst e0
        cases la
        exact q α F H (List.prefix_refl _) (Same.refl F) w _ (.tup hb lb)
      · subst e0
        cases lb
        rw [List.append_nil] at q
        exact q α F H (List.prefix_refl _) (Same.refl F) w _ (.tup ha la)
      · have sn := same_new (o := .tup (vs ++ ws)) (w.sub.free hp)
        exact q α _ _ (List.prefix_refl _) sn (w.lay hp) _ (.tup (.inl (.inl upd_same)) ((la.append lb).mono (List.prefix_refl _) sn))
    · rw [if_neg hz] at q; exact q.elim
  · exact q.elim
end
end DL

/-! The data layer, d: containers: in, subscripts, slices, len, list, tuple, isinstance, calls. -/
namespace DL
open PySem PySem.Spec PyProof.Rows L2

section
variable {X : Cx} {pins : List (Addr × Obj)} {σ : L2.St} {H : Hp} {s : Shared}
/-- a dict that is read, in the heap -/
theorem rdd_of {a : Addr} {kvs : List (Key × V)} (I : Inv X pins σ H s) (h : RdD H a kvs) : kvs.length ≤ sizeLine ∧ (a == sysModules) = false ∧ ∃ vs, KV kvs vs ∧ s.heap.DictOf (mixKind X.prog X.w) a vs := dk_rd I.hok h
def rInK (neg : Bool) : R2 := fun x y H Q => ∃ a kvs k, y = .ref a ∧ x = kV k ∧ RdD H a kvs ∧ Q (.bl (if neg then !(valV kvs k).isSome else (valV kvs k).isSome)) H
theorem op_inK : OpR X (compareOp .In) (rInK false) := by
  intro pins s σ H x y v u Q I rx ry q
  obtain ⟨a, kvs, k, rfl, rfl, hd, q⟩ := q
  cases ry
  obtain ⟨_, lo, vs, kk, dd⟩ := rdd_of I hd
  refine wpAny_in_of (kV_is rx) lo dd.mapOf ?_
  rw [← (kk.val k).isSome_eq]
  exact ⟨.bl _, H, I.tok _, rfl, q⟩
theorem op_notInK : OpR X (compareOp .NotIn) (rInK true) := by
  intro pins s σ H x y v u Q I rx ry q
  obtain ⟨a, kvs, k, rfl, rfl, hd, q⟩ := q
  cases ry
  obtain ⟨_, lo, vs, kk, dd⟩ := rdd_of I hd
  refine wpAny_notIn_of (kV_is rx) lo dd.mapOf ?_
  rw [← (kk.val k).isSome_eq]
  exact ⟨.bl _, H, I.tok _, rfl, q⟩
def rIxK : R2 := fun x y H Q => ∃ a kvs k v, x = .ref a ∧ y = kV k ∧ RdD H a kvs ∧ valV kvs k = some v ∧ Q v H
theorem ix_K : IxR X rIxK := by
  intro value slice pins s σ H x y v u Q I rx ry q hs
  obtain ⟨a, kvs, k, z, rfl, rfl, hd, hv, q⟩ := q
  cases rx
  obtain ⟨_, lo, vs, kk, dd⟩ := rdd_of I hd
  obtain ⟨zv, hz, rz⟩ := RelO.some_of (v := z) (o := valueAt vs k) (by rw [← hv]; exact kk.val k)
  exact tail_any dd.typeIs slot_dict_getitem.lookup (wpAny_getItem_of (kV_is ry) dd.mapOf hz ⟨z, H, I.tok _, rz, q⟩) hs
/-- x in t, t a tuple of plain data -/
def rInU (K : PySem.W.Frag) (neg : Bool) : R2 := fun x y H Q => ∃ d ds, Dp K H x d ∧ Dp K H y (.tuple ds) ∧ SeqAt.shaped d = true ∧ SeqAt.shaped (.tuple ds) = true ∧ Q (.bl (if neg then !ds.any fun z => PyData.eqv z d else ds.any fun z => PyData.eqv z d)) H
theorem op_inU (hu : X.A.units + 65 < cLine) : OpR X (compareOp .In) (rInU X.K false) := by
  intro pins s σ H x y v u Q I rx ry q
  obtain ⟨d, ds, h1, h2, s1, s2, q⟩ := q
  obtain ⟨as, r1⟩ := Dp.reads I d x v h1 rx
  obtain ⟨bs, r2⟩ := Dp.reads I (.tuple ds) y u h2 ry
  exact SeqAt.in_tuple_reads r2 r1 (SeqAt.canLay_of_shaped s2) (SeqAt.canLay_of_shaped s1) (room_in_shaped s1 hu) ⟨.bl _, H, I, rfl, q⟩
theorem op_notInU (hu : X.A.units + 65 < cLine) : OpR X (compareOp .NotIn) (rInU X.K true) := by
  intro pins s σ H x y v u Q I rx ry q
  obtain ⟨d, ds, h1, h2, s1, s2, q⟩ := q
  obtain ⟨as, r1⟩ := Dp.reads I d x v h1 rx
  obtain ⟨bs, r2⟩ := Dp.reads I (.tuple ds) y u h2 ry
  exact SeqAt.notIn_tuple_reads r2 r1 (SeqAt.canLay_of_shaped s2) (SeqAt.canLay_of_shaped s1) (room_in_shaped s1 hu) ⟨.bl _, H, I, rfl, q⟩
/-- len, of a dict that is read -/
theorem call_lenK : CallR X (.builtin "len") (fun xs H Q => ∃ a kvs, xs = [V.ref a] ∧ RdD H a kvs ∧ Q (.int kvs.length) H) := by
  intro pins s σ H xs us Q I r q
  obtain ⟨a, kvs, rfl, hd, q⟩ := q
  obtain ⟨u, rfl, ru⟩ := vals1 r
  cases ru
  obtain ⟨z, lo, vs, kk, dd⟩ := rdd_of I hd
  have hl := kk.length
  have h0 := sizeLine_eq
  refine call_len_dict lo dd (by omega) ?_
  exact ⟨.int kvs.length, H, I.tok _, ⟨_, by rw [hl]⟩, q⟩
/-- list of a dict that is read -/
theorem call_listK (hc : X.calm = true) : CallR X (.type "list") (fun xs H Q => ∃ (a : Addr) (kvs : List (Key × V)), xs = [.ref a] ∧ RdD H a kvs ∧ ∀ p, H p = none → Q (.ref p) (upd H p (.lst (kvs.map fun kv => kV kv.1)))) := by
  intro pins s σ H xs us Q I r q
  obtain ⟨a, kvs, rfl, hd, q⟩ := q
  obtain ⟨u, rfl, ru⟩ := vals1 r
  cases ru
  obtain ⟨z, lo, vs, kk, dd⟩ := rdd_of I hd
  obtain ⟨ep, hat⟩ := dd.dictAt
  have ek : (kvs.map fun kv => kV kv.1) = vs.map fun p => kV p.1 := by
    have e := congrArg (List.map kV) kk.keys
    rw [List.map_map, List.map_map] at e
    exact e
  refine PySem.W.kdl_call (PySem.W.kdl_dict (knd := mixKind X.prog X.w) (kvs := vs) (ep := ep) lo) (I.ok.hd hc) hat (by rw [← kk.length]; exact z) fun h' tk acc c' hk hD hacc => ?_
  have hv : Vals (vs.map fun p => kV p.1) acc.toList := keys_at (by rw [Array.length_toList]; exact hacc.1) fun j v e => hacc.2 j v (by rw [← Array.getElem?_toList]; exact e)
  have hnew : ObjOk X.prog X.w (upd H s.heap.objs.size (.lst (kvs.map fun kv => kV kv.1))) h' s.heap.objs.size (.lst (kvs.map fun kv => kV kv.1)) :=
    ⟨by rw [List.length_map]; exact z, acc.toList, c', by rw [ek]; exact hv, by rw [Array.toArray_toList]; exact hD⟩
  exact ⟨.ref s.heap.objs.size, _, I.laid (t' := tk) hk (Nat.le_refl _) hnew, rfl, q _ (I.hok.fresh (Nat.le_refl _))⟩
/-- dict(d) of a dict that is read -/
theorem call_dictK : CallR X (.type "dict") (fun xs H Q => ∃ (a : Addr) (kvs : List (Key × V)), xs = [.ref a] ∧ RdD H a kvs ∧ ∀ p, H p = none → Q (.ref p) (upd H p (.dK kvs))) := by
  intro pins s σ H xs us Q I r q
  obtain ⟨a, kvs, rfl, hd, q⟩ := q
  obtain ⟨u, rfl, ru⟩ := vals1 r
  cases ru
  obtain ⟨z, lo, vs, kk, dd⟩ := rdd_of I hd
  refine kt_call_dict lo dd (by rw [← kk.length]; exact z) fun h' d' hs => ?_
  have hm : (s.heap.objs.size == sysModules) = false := beq_eq_false_iff_ne.mpr (Nat.ne_of_gt I.big)
  have hnew : ObjOk X.prog X.w (upd H s.heap.objs.size (.dK kvs)) h' s.heap.objs.size (.dK kvs) := ⟨z, hm, vs, kk, d'⟩
  exact ⟨.ref s.heap.objs.size, _, I.laid (t' := s.toks) (fun b o e => (hs.2 b (Nat.ne_of_lt (Heap.lt_size e))).trans (Heap.get?_push_of_some _ e)) (Nat.le_refl _) hnew, rfl, q _ (I.hok.fresh (Nat.le_refl _))⟩
/-- a dict stands still from now on -/
def tFrz (t : TE) : TE := fun σ H Q => t σ H fun v H1 => ∃ a kvs, v = .ref a ∧ H1 a = some (.dK kvs) ∧ ∀ o, Q v (upd H1 a (.frz o (.dK kvs)))
theorem pe_frz {e : Expr} {t : TE} (h : PE X e t) : PE X e (tFrz t) := by
  refine ⟨fun pins s σ H Q I q => thn (h.run pins s σ H _ I q) fun u s1 ⟨v, H1, I1, r1, a, kvs, e, ha, q1⟩ => ?_⟩
  subst e
  have hok := I1.hok a _ ha
  have hd : ObjOk X.prog X.w H1 s1.heap a (.dK kvs) := hok
  obtain ⟨z, lo, vs, kk, o, es, ep, ho, hr⟩ := hd
  have hnew : ObjOk X.prog X.w (upd H1 a (.frz o (.dK kvs))) s1.heap a (.frz o (.dK kvs)) := ⟨ho, z, lo, vs, kk, o, es, ep, ho, hr⟩
  exact ⟨.ref a, _, I1.write (t' := s1.toks) (x := a) (e := a) (o := .frz o (.dK kvs)) (by rw [ha]; exact True.intro) (.inl rfl) (fun _ _ _ q => q) ⟨o, ho⟩ hnew, r1, q1 o⟩
end

/-! ### keys -/
def D.key : D → Option Key
  | .int i => some (.inl i)
  | .str s => some (.inr s)
  | _ => none
def lookD {κ : Type} [DecidableEq κ] : List κ → List D → κ → Option D
  | k0 :: ks, x :: xs, k => if k0 = k then some x else lookD ks xs k
  | _, _, _ => none
section
variable {K : PySem.W.Frag} {γ : Hp} {α : List Addr} {F H : Hp} {μ : List Ob} {W : WX}
theorem key_kV {v : V} {d : D} {k : Key} (h : Is K α F v d) (e : d.key = some k) : v = kV k := by
  cases d <;> (simp only [D.key] at e; try cases e)
  · cases h; rfl
  · cases h; rfl
theorem look_val {κ : Type} [DecidableEq κ] (k : κ) : ∀ {kvs : List (κ × V)} {xs : List D}, IsL K α F (kvs.map (·.2)) xs →
    (∀ d, lookD (kvs.map (·.1)) xs k = some d → ∃ v, valV kvs k = some v ∧ Is K α F v d) ∧ (lookD (kvs.map (·.1)) xs k = none → valV kvs k = none)
  | [], _, .nil => ⟨fun d h => by simp [lookD] at h, fun _ => valV_nil⟩
  | (k0, v0) :: r, _, .cons (d := d0) (ds := ds) h l => by
    have ih := look_val k l
    show (∀ d, (if k0 = k then some d0 else lookD (r.map (·.1)) ds k) = some d → _) ∧ ((if k0 = k then some d0 else lookD (r.map (·.1)) ds k) = none → _)
    by_cases e : k0 = k
    · rw [if_pos e]
      exact ⟨fun d q => by cases q; exact ⟨v0, valV_pos (p := (k0, v0)) e, h⟩, fun q => nomatch q⟩
    · rw [if_neg e, valV_neg (p := (k0, v0)) e]
      exact ih
theorem look_some {κ : Type} [DecidableEq κ] {k : κ} {kvs : List (κ × V)} {xs : List D} (l : IsL K α F (kvs.map (·.2)) xs) : (valV kvs k).isSome = (lookD (kvs.map (·.1)) xs k).isSome := by
  cases h : lookD (kvs.map (·.1)) xs k with
  | some d =>
    obtain ⟨v, hv, _⟩ := (look_val k l).1 d h
    rw [hv]; rfl
  | none => rw [(look_val k l).2 h]; rfl

/-! ### in, not in -/
def inD (neg : Bool) (d e : D) (μ : List Ob) : R D := match e.view μ with
  | .lst xs => if d.okd 60 && okdL 60 xs then .ok (.bl (if neg then !xs.any fun z => z.eqb d else xs.any fun z => z.eqb d)) μ else .bad
  | .tup xs => if d.okd 60 && okdL 60 xs then .ok (.bl (if neg then !xs.any fun z => z.eqb d else xs.any fun z => z.eqb d)) μ else .bad
  | .dct ks xs => match d.key with
    | some k => .ok (.bl (if neg then !(lookD ks xs k).isSome else (lookD ks xs k).isSome)) μ
    | none => .bad
  | .str z => match d with
    | .str ⟨#[c]⟩ => .ok (.bl (if neg then !decide (c ∈ z.cps.toList) else decide (c ∈ z.cps.toList))) μ
    | _ => .bad
  | _ => .bad
theorem any_eqv {d : D} (hd : d.okd 60 = true) : ∀ {xs : List D}, okdL 60 xs = true → ((pyL xs).any fun z => PyData.eqv z d.py) = xs.any fun z => z.eqb d
  | [], _ => rfl
  | x :: xs, h => by
    rw [okdL, Bool.and_eq_true] at h
    rw [pyL, List.any_cons, List.any_cons, any_eqv hd h.2]
    rw [eqb_eqv 60 x d h.1 hd]
def rInA (K : PySem.W.Frag) (neg : Bool) : R2 := fun x y H Q =>
  (if neg then rNotInD K x y H Q else rInD K x y H Q) ∨ rInU K neg x y H Q ∨ rInK neg x y H Q ∨ (∃ (c : Nat) (z : Str), x = .str ⟨#[c]⟩ ∧ y = .str z ∧ Q (.bl (if neg then !decide (c ∈ z.cps.toList) else decide (c ∈ z.cps.toList))) H)
theorem op_inA {X : Cx} (hu : X.A.units + 65 < cLine) : OpR X (compareOp .In) (rInA X.K false) := by
  refine OpR.or ?_ (OpR.or (op_inU hu) (OpR.or op_inK op_in_sign))
  exact op_inD hu
theorem op_notInA {X : Cx} (hu : X.A.units + 65 < cLine) : OpR X (compareOp .NotIn) (rInA X.K true) := by
  refine OpR.or ?_ (OpR.or (op_notInU hu) (OpR.or op_notInK op_notIn_sign))
  exact op_notInD hu
theorem view_str' {d : D} {z : Str} (h : d.view μ = .str z) : d = .str z := view_str h
theorem op2_in (neg : Bool) : Op2 K (rInA K neg) (inD neg) := fun γ α F H μ x y d e Q E w hx hy q => by
  unfold inD at q
  have vy := w.view hy
  have go : ∀ k : Bool, Fin K γ α F (R.ok (D.bl k) μ) (okD K Q) E → Q (.bl k) H := fun k q => q α F H (List.prefix_refl _) (Same.refl F) w _ (.bl _)
  split at q
  · rename_i xs he
    rw [he] at vy
    obtain ⟨a, vs, rfl, h1, h2⟩ := vy
    by_cases hz : (d.okd 60 && okdL 60 xs) = true
    · rw [if_pos hz] at q
      rw [Bool.and_eq_true] at hz
      have dx : Dp K H x d.py := dp_mono w.sub (Is.dp 60 hx hz.1)
      have dl : Dp K H (.ref a) (.list (pyL xs)) := .lst (.inl (.inl h1)) (dpAll_mono w.sub (h2.dp 60 hz.2))
      have sl : SeqAt.shaped (.list (pyL xs)) = true := by
        have := okd_sh (d := .lst xs) (n := 61) (by simp only [D.okd]; exact hz.2) (by decide)
        simpa only [D.py] using this
      have qq := go _ q
      left
      cases neg with
      | true => exact ⟨_, _, dx, dl, okd_sh hz.1 (by decide), sl, by rw [any_eqv hz.1 hz.2]; exact qq⟩
      | false => exact ⟨_, _, dx, dl, okd_sh hz.1 (by decide), sl, by rw [any_eqv hz.1 hz.2]; exact qq⟩
    · rw [if_neg hz] at q; exact q.elim
  · rename_i xs he
    rw [he] at vy
    obtain ⟨a, vs, rfl, h1, h2⟩ := vy
    by_cases hz : (d.okd 60 && okdL 60 xs) = true
    · rw [if_pos hz] at q
      rw [Bool.and_eq_true] at hz
      have dx : Dp K H x d.py := dp_mono w.sub (Is.dp 60 hx hz.1)
      have dl : Dp K H (.ref a) (.tuple (pyL xs)) := .tup h1 (dpAll_mono w.sub (h2.dp 60 hz.2))
      have sl : SeqAt.shaped (.tuple (pyL xs)) = true := by
        have := okd_sh (d := .tup xs) (n := 61) (by simp only [D.okd]; exact hz.2) (by decide)
        simpa only [D.py] using this
      have qq := go _ q
      right; left
      exact ⟨_, _, dx, dl, okd_sh hz.1 (by decide), sl, by rw [any_eqv hz.1 hz.2]; exact qq⟩
    · rw [if_neg hz] at q; exact q.elim
  · rename_i ks xs he
    rw [he] at vy
    obtain ⟨a, kvs, rfl, h1, h2, h3⟩ := vy
    cases hk : d.key with
    | none => rw [hk] at q; exact q.elim
    | some k =>
      rw [hk] at q
      have qq := go _ q
      right; right; left
      refine ⟨a, kvs, k, rfl, key_kV hx hk, h1, ?_⟩
      rw [look_some h3, h2]
      exact qq
  · rename_i z he
    cases d with
    | str cs =>
      obtain ⟨⟨cl⟩⟩ := cs
      match cl, hx, q with
      | [], hx, q => exact q.elim
      | [c], hx, q =>
        have qq := go _ q
        cases hx
        rw [view_str he] at hy
        cases hy
        right; right; right
        exact ⟨c, z, rfl, rfl, qq⟩
      | _ :: _ :: _, hx, q => exact q.elim
    | _ => exact q.elim
  · exact q.elim
theorem pd_in {X : Cx} {a b : Expr} {fa fb : RE} {pos : Pos} (hu : X.A.units + 65 < cLine) (ha : PD X W a fa) (hb : PD X W b fb) (hm : behindInMarks .In b = false := by rfl) : PD X W (.Compare a [.In] [b] pos) (rBin (inD false) fa fb) :=
  pd_cmp (op_inA hu) (op2_in false) hm ha hb
theorem pd_notIn {X : Cx} {a b : Expr} {fa fb : RE} {pos : Pos} (hu : X.A.units + 65 < cLine) (ha : PD X W a fa) (hb : PD X W b fb) (hm : behindInMarks .NotIn b = false := by rfl) : PD X W (.Compare a [.NotIn] [b] pos) (rBin (inD true) fa fb) :=
  pd_cmp (op_notInA hu) (op2_in true) hm ha hb
theorem pdt_in {X : Cx} {a b : Expr} {fa fb : RE} {pos : Pos} (hu : X.A.units + 65 < cLine) (ha : PD X W a fa) (hb : PD X W b fb) (hm : behindInMarks .In b = false := by rfl) : PDT X W (.Compare a [.In] [b] pos) (rT (rBin (inD false) fa fb)) :=
  pdt_cmp (op_inA hu) (op2_in false) hm ha hb
theorem pdt_notIn {X : Cx} {a b : Expr} {fa fb : RE} {pos : Pos} (hu : X.A.units + 65 < cLine) (ha : PD X W a fa) (hb : PD X W b fb) (hm : behindInMarks .NotIn b = false := by rfl) : PDT X W (.Compare a [.NotIn] [b] pos) (rT (rBin (inD true) fa fb)) :=
  pdt_cmp (op_notInA hu) (op2_in true) hm ha hb

/-! ### o[i] -/
def getD (d e : D) (μ : List Ob) : R D := match d.view μ with
  | .lst xs => match e with
    | .int i => match atI xs i with
      | some x => .ok x μ
      | none => .bad
    | _ => .bad
  | .tup xs => match e with
    | .int i => match atI xs i with
      | some x => .ok x μ
      | none => .bad
    | _ => .bad
  | .dct ks xs => match e.key with
    | some k => match lookD ks xs k with
      | some x => .ok x μ
      | none => .bad
    | none => .bad
  | _ => .bad
def rIxA (K : PySem.W.Frag) : R2 := fun x y H Q => rIxL K x y H Q ∨ rIxT K x y H Q ∨ rIxK x y H Q
theorem ix_A {X : Cx} : IxR X (rIxA X.K) := IxR.or ix_list (IxR.or ix_tup ix_K)
theorem atI_is {vs : List V} {xs : List D} {i : Int} {x : D} (l : IsL K α F vs xs) (h : atI xs i = some x) : ∃ v, atI vs i = some v ∧ Is K α F v x := by
  unfold atI at h ⊢
  rw [l.length]
  cases hj : ixN xs.length i with
  | none => rw [hj] at h; cases h
  | some j =>
    rw [hj] at h
    exact l.get h
theorem op2_get : Op2 K (rIxA K) getD := fun γ α F H μ x y d e Q E w hx hy q => by
  unfold getD at q
  have vx := w.view hx
  split at q
  · rename_i xs hd
    rw [hd] at vx
    obtain ⟨a, vs, rfl, h1, h2⟩ := vx
    cases e <;> try exact q.elim
    rename_i i
    cases hy
    dsimp only at q
    cases ha : atI xs i with
    | none => rw [ha] at q; exact q.elim
    | some z =>
      rw [ha] at q
      obtain ⟨v, h3, h4⟩ := atI_is h2 ha
      exact .inl ⟨a, vs, i, v, rfl, rfl, .inl (.inl h1), h3, q α F H (List.prefix_refl _) (Same.refl F) w _ h4⟩
  · rename_i xs hd
    rw [hd] at vx
    obtain ⟨a, vs, rfl, h1, h2⟩ := vx
    cases e <;> try exact q.elim
    rename_i i
    cases hy
    dsimp only at q
    cases ha : atI xs i with
    | none => rw [ha] at q; exact q.elim
    | some z =>
      rw [ha] at q
      obtain ⟨v, h3, h4⟩ := atI_is h2 ha
      exact .inr (.inl ⟨a, vs, i, v, rfl, rfl, h1, h3, q α F H (List.prefix_refl _) (Same.refl F) w _ h4⟩)
  · rename_i ks xs hd
    rw [hd] at vx
    obtain ⟨a, kvs, rfl, h1, h2, h3⟩ := vx
    cases hk : e.key with
    | none => rw [hk] at q; exact q.elim
    | some k =>
      rw [hk] at q
      dsimp only at q
      cases hl : lookD ks xs k with
      | none => rw [hl] at q; exact q.elim
      | some z =>
        rw [hl] at q
        subst h2
        obtain ⟨v, h4, h5⟩ := (look_val k h3).1 z hl
        exact .inr (.inr ⟨a, kvs, k, v, rfl, key_kV hy hk, h1, h4, q α F H (List.prefix_refl _) (Same.refl F) w _ h5⟩)
  · exact q.elim
theorem pd_ix {X : Cx} {a b : Expr} {fa fb : RE} {pos : Pos} (ha : PD X W a fa) (hb : PD X W b fb) (hs : PlainIx b := by exact fun _ _ => rfl) : PD X W (.Subscript a b pos) (rBin getD fa fb) :=
  pe_weak (pe_ix ix_A ha hb hs) (tD_bin op2_get)

/-! ### o[a:b] -/
abbrev RO := Sl → List Ob → R (Option Int)
def tDO (K : PySem.W.Frag) (W : WX) (f : RO) : TO := fun σ H Q => ∃ γ α F μ δ, Wd K γ α F H μ ∧ SlIs K α F σ δ ∧ Fin K γ α F (f δ μ) (fun o _ _ _ H' => Q o H') (fun c dd H' => W c dd σ H')
theorem po_weak {X : Cx} {o : Option Expr} {t t' : TO} (h : PO X o t) (i : ∀ σ H Q, t' σ H Q → t σ H Q) : PO X o t' := ⟨fun pins s σ H Q I q => h.run pins s σ H Q I (i _ _ _ q)⟩
abbrev PDO (X : Cx) (W : WX) (o : Option Expr) (f : RO) : Prop := PO X o (tDO X.K W f)
def rNone : RO := fun _ μ => .ok none μ
def rSome (f : RE) : RO := fun δ μ => (f δ μ).bind fun d μ1 => match d with
  | .int i => .ok (some i) μ1
  | _ => .bad
theorem pdo_none {X : Cx} : PDO X W none rNone := po_weak po_none fun σ H Q ⟨γ, α, F, μ, δ, w, s, q⟩ => q α F H (List.prefix_refl _) (Same.refl F) w
theorem pdo_some {X : Cx} {e : Expr} {f : RE} (h : PD X W e f) : PDO X W (some e) (rSome f) := po_weak (po_some h) fun σ H Q ⟨γ, α, F, μ, δ, w, s, q⟩ =>
  tD_go w s q fun d μ1 α1 F1 H1 x p1 e1 w1 s1 hx q1 => by
    cases d with
    | int i => cases hx; exact ⟨i, rfl, q1 α1 F1 H1 (List.prefix_refl _) (Same.refl F1) w1⟩
    | _ => exact q1.elim
theorem tDO_go {τ : Type} {f : RO} {σ : L2.St} {δ : Sl} {g : Option Int → List Ob → R τ} {ok : τ → List Ob → List Addr → Hp → Hp → Prop} {Q : Option Int → Hp → Prop} (w : Wd K γ α F H μ) (s : SlIs K α F σ δ) (q : Fin K γ α F ((f δ μ).bind g) ok (fun c dd H' => W c dd σ H'))
    (k : ∀ b μ1 α1 F1 H1, α <+: α1 → Same F F1 → Wd K γ α1 F1 H1 μ1 → SlIs K α1 F1 σ δ → Fin K γ α1 F1 (g b μ1) ok (fun c dd H' => W c dd σ H') → Q b H1) : tDO K W f σ H Q := by
  refine ⟨γ, α, F, μ, δ, w, s, ?_⟩
  cases hf : f δ μ with
  | ok d μ1 =>
    rw [hf] at q
    exact fun α1 F1 H1 p e w1 => k d μ1 α1 F1 H1 p e w1 (s.mono p e) (q.up p e)
  | exc x μ1 =>
    rw [hf] at q
    exact q
  | bad =>
    rw [hf] at q
    exact q
def cutL {β : Type} (xs : List β) (lo hi : Option Int) : List β := (xs.drop (HT.sIx xs.length 0 lo)).take (HT.sIx xs.length xs.length hi - HT.sIx xs.length 0 lo)
theorem cutL_is {vs : List V} {xs : List D} {lo hi : Option Int} (l : IsL K α F vs xs) : IsL K α F (cutV vs lo hi) (cutL xs lo hi) := by
  unfold cutV cutL
  rw [l.length]
  exact (l.drop _).take _
def sliceD (d : D) (lo hi : Option Int) (μ : List Ob) : R D := match d.view μ with
  | .lst xs => .ok (.lst (cutL xs lo hi)) μ
  | .tup xs => .ok (.tup (cutL xs lo hi)) μ
  | _ => .bad
def rSlice (fa : RE) (fl fh : RO) : RE := fun δ μ => (fa δ μ).bind fun d μ1 => (fl δ μ1).bind fun lo μ2 => (fh δ μ2).bind fun hi μ3 => sliceD d lo hi μ3
def rSliceA (K : PySem.W.Frag) : V → Option Int → Option Int → Hp → VK → Prop := fun x lo hi H Q => rSlL K x lo hi H Q ∨ rSlA K x lo hi H Q
theorem pd_slice {X : Cx} {e : Expr} {lo hi : Option Expr} {fa : RE} {fl fh : RO} {p2 pos : Pos} (he : PD X W e fa) (hl : PDO X W lo fl) (hh : PDO X W hi fh) : PD X W (.Subscript e (.Slice lo hi none p2) pos) (rSlice fa fl fh) :=
  pe_weak (pe_slice (r := rSliceA X.K) (SlR.or sl_list sl_tupA) he hl hh) fun σ H Q ⟨γ, α, F, μ, δ, w, s, q⟩ =>
  tD_go w s q fun d μ1 α1 F1 H1 x p1 e1 w1 s1 hx q1 => tDO_go w1 s1 q1 fun lo μ2 α2 F2 H2 p2 e2 w2 s2 q2 => tDO_go w2 s2 q2 fun hi μ3 α3 F3 H3 p3 e3 w3 s3 q3 => by
    have hx3 := hx.mono (p2.trans p3) (e2.trans e3)
    have vx := w3.view hx3
    unfold sliceD at q3
    split at q3
    · rename_i xs hd
      rw [hd] at vx
      obtain ⟨a, vs, rfl, h1, h2⟩ := vx
      refine .inl ⟨a, vs, rfl, .inl (.inl h1), fun p hp => ?_⟩
      have sn := same_new (o := .lst (cutV vs lo hi)) (w3.sub.free hp)
      exact q3 α3 _ _ (List.prefix_refl _) sn (w3.lay hp) _ (.lst upd_same ((cutL_is h2).mono (List.prefix_refl _) sn))
    · rename_i xs hd
      rw [view_tup hd] at hx3
      cases hx3 with
      | tup ha la =>
      rename_i a vs
      refine .inr ⟨a, vs, rfl, sqt_mono w3.sub ha, fun hw => ?_, fun hw p hp => ?_⟩
      · have e0 : cutL xs lo hi = xs := by
          unfold cutL
          rw [← la.length, hw.1, hw.2, List.drop_zero, Nat.sub_zero, la.length, List.take_length]
        rw [e0] at q3
        exact q3 α3 F3 H3 (List.prefix_refl _) (Same.refl F3) w3 _ (.tup ha la)
      · have sn := same_new (o := .tup (cutV vs lo hi)) (w3.sub.free hp)
        exact q3 α3 _ _ (List.prefix_refl _) sn (w3.lay hp) _ (.tup (.inl (.inl upd_same)) ((cutL_is la).mono (List.prefix_refl _) sn))
    · exact q3.elim
end
end DL

/-! The data layer, e: targets, statements, loops, comprehensions. -/
namespace DL
open PySem L2

/-! ### targets -/
inductive Tg where
  | nm (i : Nat) | tp (is : List Nat)
def Tg.slots : Tg → List Nat
  | .nm i => [i]
  | .tp is => is
def setsV : List Nat → List V → St → St
  | i :: is, v :: vs, σ => setsV is vs (σ.set i (some v))
  | _, _, σ => σ
def setsD : List Nat → List D → Sl → Sl
  | i :: is, d :: ds, δ => setsD is ds (δ.set i (some d))
  | _, _, δ => δ
def Tg.set (t : Tg) (d : D) (δ : Sl) : Option Sl := match t with
  | .nm i => some (δ.set i (some d))
  | .tp is => match d with
    | .tup ds => if ds.length = is.length then some (setsD is ds δ) else none
    | _ => none
def gSets (is : List Nat) : TGs := fun vs σ H Q => vs.length = is.length ∧ Q (setsV is vs σ) H
def Tg.rd (K : PySem.W.Frag) : Tg → TG
  | .nm i => gName i
  | .tp is => fun v σ H Q => ∃ a xs, v = .ref a ∧ SqT K H a xs ∧ xs.length = is.length ∧ Q (setsV is xs σ) H
abbrev PDG (X : Cx) (tg : Expr) (t : Tg) : Prop := PG X tg (t.rd X.K)
section
variable {X : Cx} {pos : Pos}
theorem pg_weak {tg : Expr} {t t' : TG} (h : PG X tg t) (i : ∀ v σ H Q, t' v σ H Q → t v σ H Q) : PG X tg t' := ⟨fun pins s σ H v u Q I r q => h.run pins s σ H v u Q I r (i _ _ _ _ q)⟩
theorem pgs_weak {tg : List Expr} {t t' : TGs} (h : PGs X tg t) (i : ∀ v σ H Q, t' v σ H Q → t v σ H Q) : PGs X tg t' := ⟨fun pins s σ H v u Q I r q => h.run pins s σ H v u Q I r (i _ _ _ _ q)⟩
theorem pdg_nm (i : Nat) {x : Str} (hN : X.N.Nodup) (hi : X.N[i]? = some x := by rfl) (hx : Loc X.env.scope x := by first | exact Or.inl rfl | exact Or.inr rfl) (hf : X.fn x = true ∨ X.env.scope.names.lookup x = some .local := by first | exact .inl rfl | exact .inr rfl | assumption) : PDG X (.Name x pos) (.nm i) :=
  pg_name hN hi hx hf
theorem pgd_nil : PGs X [] (gSets []) := pgs_weak pgs_nil fun v σ H Q q => by
  obtain ⟨h, q⟩ := q
  cases v with
  | nil => exact ⟨rfl, q⟩
  | cons _ _ => cases h
theorem pgd_cons (i : Nat) {x : Str} {es : List Expr} {is : List Nat} {p : Pos} (hN : X.N.Nodup) (h : PGs X es (gSets is)) (hi : X.N[i]? = some x := by rfl) (hx : Loc X.env.scope x := by first | exact Or.inl rfl | exact Or.inr rfl) (hf : X.fn x = true ∨ X.env.scope.names.lookup x = some .local := by first | exact .inl rfl | exact .inr rfl | assumption)
    (hs : (assignEach (.Name x p :: es) X.env).map (·.2) = assign (.Name x p) X.env :: (assignEach es X.env).map (·.2) := by rfl) : PGs X (.Name x p :: es) (gSets (i :: is)) :=
  pgs_weak (pgs_cons (pg_name hN hi hx hf) h hs) fun v σ H Q q => by
    obtain ⟨h, q⟩ := q
    cases v with
    | nil => cases h
    | cons v vs => exact ⟨v, vs, rfl, Nat.succ.inj h, q⟩
theorem pdg_tp {es : List Expr} {is : List Nat} {k : Nat} (hc : X.calm = true) (h : PGs X es (gSets is)) (hn : (assignEach es X.env).length = is.length := by rfl) (hst : (assignEach es X.env).findIdx? (·.1) = none := by rfl) : PDG X (.Tuple es k pos) (.tp is) :=
  pg_weak (pg_tup hc h hn hst) fun v σ H Q q => by
    obtain ⟨a, xs, e1, h1, h2, q⟩ := q
    exact ⟨a, xs, e1, h1, h2, h2, q⟩
end
section
variable {K : PySem.W.Frag} {γ : Hp} {α : List Addr} {F H : Hp} {μ : List Ob} {σ : St} {δ : Sl}
theorem SlIs.sets : ∀ {is : List Nat} {vs : List V} {ds : List D} {σ : St} {δ : Sl}, SlIs K α F σ δ → IsL K α F vs ds → SlIs K α F (setsV is vs σ) (setsD is ds δ)
  | [], _, _, _, _, s, _ => s
  | _ :: _, _, _, _, _, s, .nil => s
  | i :: is, v :: vs, d :: ds, σ, δ, s, .cons h l => SlIs.sets (is := is) (vs := vs) (ds := ds) (σ := σ.set i (some v)) (δ := δ.set i (some d)) (s.set i h) l
/-- a target takes its value -/
theorem Tg.go {t : Tg} {v : V} {d : D} {δ' : Sl} {Q : St → Hp → Prop} (w : Wd K γ α F H μ) (s : SlIs K α F σ δ) (h : Is K α F v d) (e : t.set d δ = some δ')
    (k : ∀ σ', SlIs K α F σ' δ' → (∀ vs : List Nat, (∀ i ∈ t.slots, i ∈ vs) → L2.wipe σ' vs = L2.wipe σ vs) → σ'.length = σ.length → Q σ' H) : t.rd K v σ H Q := by
  have wset : ∀ (vs : List Nat) (σ : St) (i : Nat) (o : Option V), i ∈ vs → L2.wipe (σ.set i o) vs = L2.wipe σ vs := by
    intro vs
    induction vs with
    | nil => intro σ i o h; cases h
    | cons j vs ih =>
      intro σ i o h
      show (L2.wipe (σ.set i o) vs).set j none = (L2.wipe σ vs).set j none
      rcases List.mem_cons.mp h with rfl | h
      · by_cases hm : i ∈ vs
        · rw [ih σ i o hm]
        · have : L2.wipe (σ.set i o) vs = (L2.wipe σ vs).set i o := by
            clear ih h
            induction vs with
            | nil => rfl
            | cons j vs ih =>
              have h1 : i ≠ j := fun e => hm (by rw [e]; exact List.mem_cons_self)
              show (L2.wipe (σ.set i o) vs).set j none = ((L2.wipe σ vs).set j none).set i o
              rw [ih (fun z => hm (List.mem_cons_of_mem _ z)), List.set_comm _ _ h1]
          rw [this, List.set_set]
      · rw [ih σ i o h]
  cases t with
  | nm i =>
    cases e
    exact k _ (s.set i h) (fun vs hv => wset vs σ i _ (hv i (by simp [Tg.slots]))) (by rw [List.length_set])
  | tp is =>
    cases h with
    | tup ha la =>
      rename_i a xs ds
      have e' : (if ds.length = is.length then some (setsD is ds δ) else none) = some δ' := e
      by_cases hl : ds.length = is.length
      · rw [if_pos hl] at e'
        cases e'
        refine ⟨a, xs, rfl, sqt_mono w.sub ha, by rw [la.length]; exact hl, k _ (s.sets la) (fun vs hv => ?_) ?_⟩
        · have key : ∀ (is : List Nat) (xs : List V) (σ : St), (∀ i ∈ is, i ∈ vs) → L2.wipe (setsV is xs σ) vs = L2.wipe σ vs := by
            intro is
            induction is with
            | nil => intro xs σ _; rfl
            | cons i is ih =>
              intro xs σ hv
              cases xs with
              | nil => rfl
              | cons x xs =>
                show L2.wipe (setsV is xs (σ.set i (some x))) vs = _
                rw [ih xs _ (fun j hj => hv j (List.mem_cons_of_mem _ hj)), wset vs σ i _ (hv i List.mem_cons_self)]
          exact key is xs σ hv
        · have key : ∀ (is : List Nat) (xs : List V) (σ : St), (setsV is xs σ).length = σ.length := by
            intro is
            induction is with
            | nil => intro xs σ; rfl
            | cons i is ih =>
              intro xs σ
              cases xs with
              | nil => rfl
              | cons x xs =>
                show (setsV is xs (σ.set i (some x))).length = _
                rw [ih xs _, List.length_set]
          exact key is xs σ
      · rw [if_neg hl] at e'; cases e'
    | _ => cases e
end

/-! ### statements -/
inductive SO where
  | nx (δ : Sl) (μ : List Ob) | rt (d : D) (μ : List Ob) | bk (δ : Sl) (μ : List Ob) | ct (δ : Sl) (μ : List Ob) | exc (x : Exn) (δ : Sl) (μ : List Ob) | bad
abbrev RS := Sl → List Ob → SO
def FinS (K : PySem.W.Frag) (γ : Hp) (α : List Addr) (F : Hp) (r : SO) (D : Ends) (W : WX) : Prop := match r with
  | .nx δ μ => ∀ α' F' H' σ', α <+: α' → Same F F' → Wd K γ α' F' H' μ → SlIs K α' F' σ' δ → D.nx σ' H'
  | .bk δ μ => ∀ α' F' H' σ', α <+: α' → Same F F' → Wd K γ α' F' H' μ → SlIs K α' F' σ' δ → D.bk σ' H'
  | .ct δ μ => ∀ α' F' H' σ', α <+: α' → Same F F' → Wd K γ α' F' H' μ → SlIs K α' F' σ' δ → D.ct σ' H'
  | .rt d μ => ∀ α' F' H' v, α <+: α' → Same F F' → Wd K γ α' F' H' μ → Is K α' F' v d → D.rt v H'
  | .exc x δ μ => ∀ α' F' H' σ' c dd, α <+: α' → Same F F' → Wd K γ α' F' H' μ → SlIs K α' F' σ' δ → XIs K α' F' x c dd → W c dd σ' H'
  | .bad => False
def tSD (K : PySem.W.Frag) (W : WX) (f : RS) : TS := fun D σ H => ∃ γ α F μ δ, Wd K γ α F H μ ∧ SlIs K α F σ δ ∧ FinS K γ α F (f δ μ) D W
abbrev PSD (X : Cx) (W : WX) (st : Stmt) (f : RS) : Prop := PS X st (tSD X.K W f)
abbrev PSDs (X : Cx) (W : WX) (st : List Stmt) (f : RS) : Prop := PSs X st (tSD X.K W f)
theorem ps_weak {X : Cx} {st : Stmt} {t t' : TS} (h : PS X st t) (i : ∀ D σ H, t' D σ H → t D σ H) : PS X st t' := ⟨fun pins s σ H D I q => h.run pins s σ H D I (i _ _ _ q)⟩
theorem pss_weak {X : Cx} {st : List Stmt} {t t' : TS} (h : PSs X st t) (i : ∀ D σ H, t' D σ H → t D σ H) : PSs X st t' := ⟨fun pins s σ H D I q => h.run pins s σ H D I (i _ _ _ q)⟩
section
variable {K : PySem.W.Frag} {γ : Hp} {α α1 : List Addr} {F F1 H : Hp} {μ : List Ob} {σ : St} {δ : Sl} {W : WX}
theorem FinS.up {r : SO} {D : Ends} (p : α <+: α1) (e : Same F F1) (h : FinS K γ α F r D W) : FinS K γ α1 F1 r D W := by
  cases r with
  | nx δ μ => exact fun α' F' H' σ' p' e' => h α' F' H' σ' (p.trans p') (e.trans e')
  | bk δ μ => exact fun α' F' H' σ' p' e' => h α' F' H' σ' (p.trans p') (e.trans e')
  | ct δ μ => exact fun α' F' H' σ' p' e' => h α' F' H' σ' (p.trans p') (e.trans e')
  | rt d μ => exact fun α' F' H' v p' e' => h α' F' H' v (p.trans p') (e.trans e')
  | exc x δ μ => exact fun α' F' H' σ' c dd p' e' => h α' F' H' σ' c dd (p.trans p') (e.trans e')
  | bad => exact h
/-- an expression in a statement: what it gives is handed on -/
def R.st {β : Type} (r : R β) (δ : Sl) (f : β → List Ob → SO) : SO := match r with
  | .ok b μ => f b μ
  | .exc x μ => .exc x δ μ
  | .bad => .bad
@[simp] theorem R.ok_st {β : Type} (b : β) (μ : List Ob) (δ : Sl) (f : β → List Ob → SO) : (R.ok b μ).st δ f = f b μ := rfl
@[simp] theorem R.exc_st {β : Type} (x : Exn) (μ : List Ob) (δ : Sl) (f : β → List Ob → SO) : (R.exc x μ : R β).st δ f = .exc x δ μ := rfl
@[simp] theorem R.bad_st {β : Type} (δ : Sl) (f : β → List Ob → SO) : (R.bad : R β).st δ f = .bad := rfl
theorem tD_st {f : RE} {g : D → List Ob → SO} {D' : Ends} {Q : VK} (w : Wd K γ α F H μ) (s : SlIs K α F σ δ) (q : FinS K γ α F ((f δ μ).st δ g) D' W)
    (k : ∀ d μ1 α1 F1 H1 v, α <+: α1 → Same F F1 → Wd K γ α1 F1 H1 μ1 → SlIs K α1 F1 σ δ → Is K α1 F1 v d → FinS K γ α1 F1 (g d μ1) D' W → Q v H1) : tD K W f σ H Q := by
  refine ⟨γ, α, F, μ, δ, w, s, ?_⟩
  cases hf : f δ μ with
  | ok d μ1 =>
    rw [hf] at q
    exact fun α1 F1 H1 p e w1 v hv => k d μ1 α1 F1 H1 v p e w1 (s.mono p e) hv (q.up p e)
  | exc x μ1 =>
    rw [hf] at q
    exact fun α' F' H' c dd p e w1 hx => q α' F' H' σ c dd p e w1 (s.mono p e) hx
  | bad =>
    rw [hf] at q
    exact q
theorem tDT_st {f : RT} {g : Bool → List Ob → SO} {D' : Ends} {Q : Bool → Hp → Prop} (w : Wd K γ α F H μ) (s : SlIs K α F σ δ) (q : FinS K γ α F ((f δ μ).st δ g) D' W)
    (k : ∀ d μ1 α1 F1 H1, α <+: α1 → Same F F1 → Wd K γ α1 F1 H1 μ1 → SlIs K α1 F1 σ δ → FinS K γ α1 F1 (g d μ1) D' W → Q d H1) : tDT K W f σ H Q := by
  refine ⟨γ, α, F, μ, δ, w, s, ?_⟩
  cases hf : f δ μ with
  | ok d μ1 =>
    rw [hf] at q
    exact fun α1 F1 H1 p e w1 => k d μ1 α1 F1 H1 p e w1 (s.mono p e) (q.up p e)
  | exc x μ1 =>
    rw [hf] at q
    exact fun α' F' H' c dd p e w1 hx => q α' F' H' σ c dd p e w1 (s.mono p e) hx
  | bad =>
    rw [hf] at q
    exact q
theorem tSD_last {f : RS} {D' : Ends} (w : Wd K γ α F H μ) (s : SlIs K α F σ δ) (q : FinS K γ α F (f δ μ) D' W) : tSD K W f D' σ H := ⟨γ, α, F, μ, δ, w, s, q⟩
theorem FinS.nx_ {D' : Ends} (w : Wd K γ α F H μ) (s : SlIs K α F σ δ) (q : FinS K γ α F (.nx δ μ) D' W) : D'.nx σ H := q α F H σ (List.prefix_refl _) (Same.refl F) w s
end
section
variable {X : Cx} {W : WX} {e c a b o i : Expr} {st : Stmt} {sts rest : List Stmt} {f fa fb fo fi : RE} {ft : RT} {g h : RS} {pos pos' p : Pos}
def rSeq (g h : RS) : RS := fun δ μ => match g δ μ with
  | .nx δ1 μ1 => h δ1 μ1
  | r => r
theorem psd_nil : PSDs X W [] (fun δ μ => .nx δ μ) := pss_weak pss_nil fun D σ H ⟨γ, α, F, μ, δ, w, s, q⟩ => q.nx_ w s
theorem psd_cons (h1 : PSD X W st g) (h2 : PSDs X W rest h) : PSDs X W (st :: rest) (rSeq g h) :=
  pss_weak (pss_cons h1 h2) fun D σ H ⟨γ, α, F, μ, δ, w, s, q⟩ => by
    refine ⟨γ, α, F, μ, δ, w, s, ?_⟩
    unfold rSeq at q
    cases hg : g δ μ with
    | nx δ1 μ1 =>
      rw [hg] at q
      exact fun α' F' H' σ' p e w' s' => ⟨γ, α', F', μ1, δ1, w', s', q.up p e⟩
    | _ => rw [hg] at q; exact q
theorem psd_one (h1 : PSD X W st g) : PSDs X W [st] g := pss_one h1
theorem psd_pass : PSD X W (.Pass pos) (fun δ μ => .nx δ μ) := ps_weak ps_pass fun D σ H ⟨γ, α, F, μ, δ, w, s, q⟩ => q.nx_ w s
theorem psd_break : PSD X W (.Break pos) (fun δ μ => .bk δ μ) := ps_weak ps_break fun D σ H ⟨γ, α, F, μ, δ, w, s, q⟩ => q α F H σ (List.prefix_refl _) (Same.refl F) w s
theorem psd_cont : PSD X W (.Continue pos) (fun δ μ => .ct δ μ) := ps_weak ps_continue fun D σ H ⟨γ, α, F, μ, δ, w, s, q⟩ => q α F H σ (List.prefix_refl _) (Same.refl F) w s
def rDrop (f : RE) : RS := fun δ μ => (f δ μ).st δ fun _ μ1 => .nx δ μ1
theorem psd_expr (he : PD X W e f) (hs : swapsWith e none pos.line X.env = pure false := by rfl) : PSD X W (.Expr e pos) (rDrop f) :=
  ps_weak (ps_expr he hs) fun D σ H ⟨γ, α, F, μ, δ, w, s, q⟩ => tD_st w s q fun d μ1 α1 F1 H1 v p1 e1 w1 s1 hv q1 => q1.nx_ w1 s1
def rRet (f : RE) : RS := fun δ μ => (f δ μ).st δ fun d μ1 => .rt d μ1
theorem psd_ret (he : PD X W e f) : PSD X W (.Return (some e) pos) (rRet f) :=
  ps_weak (ps_ret he) fun D σ H ⟨γ, α, F, μ, δ, w, s, q⟩ => tD_st w s q fun d μ1 α1 F1 H1 v p1 e1 w1 s1 hv q1 => q1 α1 F1 H1 v (List.prefix_refl _) (Same.refl F1) w1 hv
def rIfS (ft : RT) (g h : RS) : RS := fun δ μ => (ft δ μ).st δ fun k μ1 => match k with
  | true => g δ μ1
  | false => h δ μ1
theorem psd_if {sa sb : List Stmt} (hc : PDT X W c ft) (ha : PSDs X W sa g) (hb : PSDs X W sb h) : PSD X W (.If c sa sb pos) (rIfS ft g h) :=
  ps_weak (ps_if hc ha hb) fun D σ H ⟨γ, α, F, μ, δ, w, s, q⟩ => tDT_st w s q fun d μ1 α1 F1 H1 p1 e1 w1 s1 q1 => by
    cases d with
    | true => rw [if_pos rfl]; exact tSD_last w1 s1 q1
    | false => rw [if_neg Bool.false_ne_true]; exact tSD_last w1 s1 q1
/-- code that is never come to -/
theorem psd_never : PSD X W st (fun _ _ => .bad) := ps_weak ps_never fun D σ H ⟨γ, α, F, μ, δ, w, s, q⟩ => q
theorem psds_never : PSDs X W sts (fun _ _ => .bad) := pss_weak pss_never fun D σ H ⟨γ, α, F, μ, δ, w, s, q⟩ => q
/-- name = e -/
def rSet (i : Nat) (f : RE) : RS := fun δ μ => (f δ μ).st δ fun d μ1 => .nx (δ.set i (some d)) μ1
theorem psd_set (i : Nat) {x : Str} (hN : X.N.Nodup) (he : PD X W e f) (hi : X.N[i]? = some x := by rfl) (hx : Loc X.env.scope x := by first | exact Or.inl rfl | exact Or.inr rfl) (hs : swapsWith e (some (.Name x pos')) pos.line X.env = pure false := by rfl) (hf : X.fn x = true ∨ X.env.scope.names.lookup x = some .local := by first | exact .inl rfl | exact .inr rfl | assumption) :
    PSD X W (.Assign [.Name x pos'] e pos) (rSet i f) :=
  ps_weak (ps_set hN hi hx he hs hf) fun D σ H ⟨γ, α, F, μ, δ, w, s, q⟩ => tD_st w s q fun d μ1 α1 F1 H1 v p1 e1 w1 s1 hv q1 => q1.nx_ w1 (s1.set i hv)
/-- a, b, .. = e -/
def rAsg (t : Tg) (f : RE) : RS := fun δ μ => (f δ μ).st δ fun d μ1 => match t.set d δ with
  | some δ1 => .nx δ1 μ1
  | none => .bad
theorem psd_asg {tg : Expr} {t : Tg} (he : PD X W e f) (hg : PDG X tg t) (hs : swapsWithSole [tg] e pos.line X.env = pure false := by rfl) (hw : swappedStores [tg] e X.env = pure none := by rfl)
    (h1 : (assignEach [tg] X.env).map (·.2) = [assign tg X.env] := by rfl) : PSD X W (.Assign [tg] e pos) (rAsg t f) :=
  ps_weak (ps_asg he hg hs hw h1) fun D σ H ⟨γ, α, F, μ, δ, w, s, q⟩ => tD_st w s q fun d μ1 α1 F1 H1 v p1 e1 w1 s1 hv q1 => by
    cases ht : t.set d δ with
    | none => rw [ht] at q1; exact q1.elim
    | some δ1 =>
      rw [ht] at q1
      exact Tg.go w1 s1 hv ht fun σ' s' _ _ => q1.nx_ w1 s'
/-- a, b = x, y -/
def rPar (i j : Nat) (fs : RA) : RS := fun δ μ => (fs δ μ).st δ fun ds μ1 => match ds with
  | [d, e] => .nx ((δ.set i (some d)).set j (some e)) μ1
  | _ => .bad
theorem tDA_st {K : PySem.W.Frag} {γ : Hp} {α : List Addr} {F H : Hp} {μ : List Ob} {σ : St} {δ : Sl} {f : RA} {g : List D → List Ob → SO} {D' : Ends} {Q : List V → Hp → Prop} (w : Wd K γ α F H μ) (s : SlIs K α F σ δ) (q : FinS K γ α F ((f δ μ).st δ g) D' W)
    (k : ∀ d μ1 α1 F1 H1 v, α <+: α1 → Same F F1 → Wd K γ α1 F1 H1 μ1 → SlIs K α1 F1 σ δ → IsL K α1 F1 v d → FinS K γ α1 F1 (g d μ1) D' W → Q v H1) : tDA K W f σ H Q := by
  refine ⟨γ, α, F, μ, δ, w, s, ?_⟩
  cases hf : f δ μ with
  | ok d μ1 =>
    rw [hf] at q
    exact fun α1 F1 H1 p e w1 v hv => k d μ1 α1 F1 H1 v p e w1 (s.mono p e) hv (q.up p e)
  | exc x μ1 =>
    rw [hf] at q
    exact fun α' F' H' c dd p e w1 hx => q α' F' H' σ c dd p e w1 (s.mono p e) hx
  | bad =>
    rw [hf] at q
    exact q
theorem psd_par (i j : Nat) {x y : Str} {px py pt pt2 : Pos} {kt k2 : Nat} {fs : RA} (hc : X.calm = true) (hN : X.N.Nodup) (ha : PDA X W [a, b] fs) (hij : i ≠ j := by decide) (hi : X.N[i]? = some x := by rfl) (hj : X.N[j]? = some y := by rfl)
    (hx : X.env.scope.names.lookup x = some .local := by rfl) (hy : X.env.scope.names.lookup y = some .local := by rfl)
    (hw : swappedStores [.Tuple [.Name x px, .Name y py] kt pt] (.Tuple [a, b] k2 pt2) X.env = pure (some [x, y]) := by rfl)
    (hs : swapsWithSole [.Tuple [.Name x px, .Name y py] kt pt] (.Tuple [a, b] k2 pt2) pos.line X.env = pure false := by rfl) :
    PSD X W (.Assign [.Tuple [.Name x px, .Name y py] kt pt] (.Tuple [a, b] k2 pt2) pos) (rPar i j fs) :=
  ps_weak (ps_par hc hN hi hj hij hx hy ha hw hs) fun D σ H ⟨γ, α, F, μ, δ, w, s, q⟩ => tDA_st w s q fun ds μ1 α1 F1 H1 vs p1 e1 w1 s1 hv q1 => by
    match ds, hv, q1 with
    | [d, e], .cons h1 (.cons h2 .nil), q1 => exact ⟨_, _, rfl, q1.nx_ w1 ((s1.set i h1).set j h2)⟩
    | [], _, q1 => exact q1.elim
    | [_], _, q1 => exact q1.elim
    | _ :: _ :: _ :: _, _, q1 => exact q1.elim
/-- name += e, ints -/
def rAug (i : Nat) (g : Int → Int → Int) (f : RE) : RS := fun δ μ => match δ[i]? with
  | some (some (.int a)) => (f δ μ).st δ fun d μ1 => match d with
    | .int b => .nx (δ.set i (some (.int (g a b)))) μ1
    | _ => .bad
  | _ => .bad
theorem psd_aug (i : Nat) {x : Str} {op : Operator} {gi : Int → Int → Int} (hN : X.N.Nodup) (he : PD X W e f) (ho : PIp X op (ipI gi)) (hi : X.N[i]? = some x := by rfl) (hx : Loc X.env.scope x := by first | exact Or.inl rfl | exact Or.inr rfl) (hf : X.fn x = true ∨ X.env.scope.names.lookup x = some .local := by first | exact .inl rfl | exact .inr rfl | assumption) :
    PSD X W (.AugAssign (.Name x pos') op e pos) (rAug i gi f) :=
  ps_weak (ps_aug hN hi hx he ho hf) fun D σ H ⟨γ, α, F, μ, δ, w, s, q⟩ => by
    unfold rAug at q
    split at q
    · rename_i a0 hd
      obtain ⟨v, h1, h2⟩ := s.at_ i _ hd
      cases h2
      refine ⟨_, h1, tD_st w s q fun d μ1 α1 F1 H1 v p1 e1 w1 s1 hv q1 => ?_⟩
      cases d with
      | int b => cases hv; exact ⟨a0, b, rfl, rfl, q1.nx_ w1 (s1.set i (.int _))⟩
      | _ => exact q1.elim
    · exact q.elim
end

/-! ### what is walked -/
def WalkD (K : PySem.W.Frag) (α : List Addr) (F : Hp) (J : It) (ds : List D) : Prop := ∀ (i : Nat) γ α' F' H μ, α <+: α' → Same F F' → Wd K γ α' F' H μ →
  (∀ d, ds[i]? = some d → J.go i H ∧ ∀ x H', J.yld i H x H' → ∃ F'', Same F' F'' ∧ Wd K γ α' F'' H' μ ∧ Is K α' F'' x d) ∧ (i = ds.length → J.stop i H)
theorem WalkD.mono {K : PySem.W.Frag} {α α1 : List Addr} {F F1 : Hp} {J : It} {ds : List D} (h : WalkD K α F J ds) (p : α <+: α1) (e : Same F F1) : WalkD K α1 F1 J ds := fun i γ α' F' H μ p' e' w => h i γ α' F' H μ (p.trans p') (e.trans e') w
def tDI (K : PySem.W.Frag) (W : WX) (f : RA) : TI := fun σ H R => ∃ γ α F μ δ, Wd K γ α F H μ ∧ SlIs K α F σ δ ∧ Fin K γ α F (f δ μ) (fun ds _ α' F' H' => ∀ J, WalkD K α' F' J ds → R J H') (fun c dd H' => W c dd σ H')
abbrev PDI (X : Cx) (W : WX) (tg iter : Expr) (f : RA) : Prop := PI X tg iter (tDI X.K W f)
theorem pi_weak {X : Cx} {tg e : Expr} {t t' : TI} (h : PI X tg e t) (i : ∀ σ H Q, t' σ H Q → t σ H Q) : PI X tg e t' := ⟨fun pins s σ H Q I q => h.run pins s σ H Q I (i _ _ _ q)⟩
section
variable {K : PySem.W.Frag} {γ : Hp} {α : List Addr} {F H : Hp} {μ : List Ob}
theorem walk_list {a : Addr} {vs : List V} {ds : List D} (h : SqL K F a vs) (l : IsL K α F vs ds) : WalkD K α F (Itl K a) ds := fun i γ α' F' H μ p e w => by
  have h' : SqL K H a vs := w.sub.seq (e.seq h)
  refine ⟨fun d hd => ?_, fun hi => ⟨vs, h', by rw [l.length, hi]; exact Nat.le_refl _⟩⟩
  obtain ⟨v, hv, hvd⟩ := l.get hd
  refine ⟨⟨vs, v, h', hv⟩, fun x H' y => ?_⟩
  obtain ⟨rfl, y⟩ := y
  have := y vs h'
  rw [hv] at this
  cases this
  exact ⟨F', Same.refl F', w, hvd.mono p e⟩
theorem walk_tup {a : Addr} {vs : List V} {ds : List D} (h : SqT K F a vs) (l : IsL K α F vs ds) : WalkD K α F (Itt K a) ds := fun i γ α' F' H μ p e w => by
  have h' : SqT K H a vs := sqt_mono w.sub (sqt_mono e h)
  refine ⟨fun d hd => ?_, fun hi => ⟨vs, h', by rw [l.length, hi]; exact Nat.le_refl _⟩⟩
  obtain ⟨v, hv, hvd⟩ := l.get hd
  refine ⟨⟨vs, v, h', hv⟩, fun x H' y => ?_⟩
  obtain ⟨rfl, y⟩ := y
  have := y vs h'
  rw [hv] at this
  cases this
  exact ⟨F', Same.refl F', w, hvd.mono p e⟩
def upTo (lo : Int) (n : Nat) : List D := (List.range n).map fun k => D.int (lo + (k : Nat))
theorem walk_range {lo : Int} {n : Nat} : WalkD K α F (Itr lo n) (upTo lo n) := fun i γ α' F' H μ p e w => by
  unfold upTo
  refine ⟨fun d hd => ?_, fun hi => ?_⟩
  · rw [List.getElem?_map] at hd
    cases hr : (List.range n)[i]? with
    | none => rw [hr] at hd; cases hd
    | some k =>
      rw [hr] at hd
      obtain ⟨hl, hk⟩ := List.getElem?_eq_some_iff.mp hr
      rw [List.length_range] at hl
      rw [List.getElem_range] at hk
      subst hk
      cases hd
      refine ⟨hl, fun x H' y => ?_⟩
      obtain ⟨rfl, rfl⟩ := y
      exact ⟨F', Same.refl F', w, .int _⟩
  · rw [List.length_map, List.length_range] at hi
    show n ≤ i
    omega
end
end DL

/-! The data layer, f: what is walked, for, comprehensions. -/
namespace DL
open PySem L2

def Key.d : Key → D
  | .inl i => .int i
  | .inr s => .str s
def itemsD : D → Option (List D)
  | .lst xs => some xs
  | .frl xs => some xs
  | .tup xs => some xs
  | .dct ks _ => some (ks.map Key.d)
  | _ => none
section
variable {K : PySem.W.Frag} {γ : Hp} {α : List Addr} {F H : Hp} {μ : List Ob} {W : WX}
theorem key_is {k : Key} : Is K α F (kV k) (Key.d k) := by
  cases k with
  | inl i => exact .int i
  | inr s => exact .str s
theorem walk_keys {a : Addr} {o : Obj} {kvs : List (Key × V)} (h : F a = some (.frz o (.dK kvs))) : WalkD K α F (Itk a o kvs) ((kvs.map (·.1)).map Key.d) := fun i γ α' F' H μ p e w => by
  have h' : H a = some (.frz o (.dK kvs)) := w.sub _ _ (e _ _ h)
  rw [List.map_map]
  refine ⟨fun d hd => ?_, fun hi => ⟨h', by rw [List.length_map] at hi; omega⟩⟩
  rw [List.getElem?_map] at hd
  cases hk : kvs[i]? with
  | none => rw [hk] at hd; cases hd
  | some kv =>
    rw [hk] at hd
    cases hd
    refine ⟨⟨h', (List.getElem?_eq_some_iff.mp hk).1⟩, fun x H' y => ?_⟩
    obtain ⟨rfl, k, v, hy, rfl⟩ := y
    rw [hk] at hy
    cases hy
    exact ⟨F', Same.refl F', w, key_is⟩
theorem walk_items {a : Addr} {o : Obj} {kvs : List (Key × V)} {ds : List D} (h : F a = some (.frz o (.dK kvs))) (l : IsL K α F (kvs.map (·.2)) ds) :
    WalkD K α F (Iti a o kvs) (((kvs.map (·.1)).zip ds).map fun q => D.tup [Key.d q.1, q.2]) := fun i γ α' F' H μ p e w => by
  have h' : H a = some (.frz o (.dK kvs)) := w.sub _ _ (e _ _ h)
  have hlen : ds.length = kvs.length := by rw [← l.length, List.length_map]
  refine ⟨fun d hd => ?_, fun hi => ⟨h', by rw [List.length_map, List.length_zip, List.length_map, hlen] at hi; omega⟩⟩
  rw [List.getElem?_map] at hd
  cases hz : ((kvs.map (·.1)).zip ds)[i]? with
  | none => rw [hz] at hd; cases hd
  | some q =>
    rw [hz] at hd
    cases hd
    obtain ⟨q1, q2⟩ := q
    rw [List.getElem?_zip_eq_some] at hz
    obtain ⟨z1, z2⟩ := hz
    rw [List.getElem?_map] at z1
    cases hk : kvs[i]? with
    | none => rw [hk] at z1; cases z1
    | some kv =>
      rw [hk] at z1
      cases z1
      obtain ⟨v, hv, hvd⟩ := l.get z2
      rw [List.getElem?_map, hk] at hv
      cases hv
      refine ⟨⟨h', (List.getElem?_eq_some_iff.mp hk).1⟩, fun x H' y => ?_⟩
      obtain ⟨T, k, v, hy, rfl, hT, rfl⟩ := y
      rw [hk] at hy
      cases hy
      have sn := same_new (o := .tup [kV k, v]) (w.sub.free hT)
      exact ⟨_, sn, w.lay hT, .tup (.inl (.inl upd_same)) (.cons key_is (.cons (hvd.mono p (e.trans sn)) .nil))⟩
/-- any list, tuple, dict that stands still -/
def iAny (K : PySem.W.Frag) (tl : TE) : TI := fun σ H R => tl σ H fun x H1 => ∃ a, x = .ref a ∧
  (((∃ xs, SqL K H1 a xs) ∧ R (Itl K a) H1) ∨ ((∃ xs, SqT K H1 a xs) ∧ R (Itt K a) H1) ∨ ∃ o kvs, H1 a = some (.frz o (.dK kvs)) ∧ R (Itk a o kvs) H1)
theorem pi_any {X : Cx} {tg l : Expr} {tl : TE} (hl : PE X l tl) : PI X tg l (iAny X.K tl) := by
  refine ⟨fun pins s σ H R I h => thn (hl.run pins s σ H _ I h) fun v s1 ⟨x, H1, I1, r1, a, e, q1⟩ => ?_⟩
  subst e
  cases r1
  rcases q1 with ⟨⟨xs, hq⟩, q⟩ | ⟨⟨xs, hq⟩, q⟩ | ⟨o, kvs, hd, q⟩
  · obtain ⟨its, rv, p, hz⟩ := I1.list hq
    exact wpAny_pyIter_list p.isList (pi_one (tk := s1.toks) I1 _ (turn_list a _) ⟨_, Heap.get?_push_size _ rfl, rfl, rfl⟩ q)
  · obtain ⟨its, rv, p, hz⟩ := I1.tuple hq
    exact wpAny_pyIter_tuple (show s1.heap.IsTuple a its.toArray from p) (pi_one (tk := s1.toks) I1 _ (turn_tuple a _) ⟨_, Heap.get?_push_size _ rfl, rfl, rfl⟩ q)
  · obtain ⟨hs, hgd, hx, es, ep, vs, hdt, hsz, kv, hm⟩ := I1.frzK hd
    refine iter_keys hs hgd hx hdt (pi_one (tk := s1.toks) I1 _ (turn_keys _ hdt) ⟨_, Heap.get?_push_size _ rfl, rfl, ?_⟩ q)
    rw [hsz]; rfl
def rItems (f : RE) : RA := fun δ μ => (f δ μ).bind fun d μ1 => match itemsD d with
  | some xs => .ok xs μ1
  | none => .bad
theorem pdi_any {X : Cx} {tg l : Expr} {f : RE} (hl : PD X W l f) : PDI X W tg l (rItems f) :=
  pi_weak (pi_any hl) fun σ H Rw ⟨γ, α, F, μ, δ, w, s, q⟩ => tD_go w s q fun d μ1 α1 F1 H1 x p1 e1 w1 s1 hx q1 => by
    have fin : ∀ {J : It} {xs : List D}, WalkD X.K α1 F1 J xs → Fin X.K γ α1 F1 (R.ok xs μ1) (fun ds _ α' F' H' => ∀ J, WalkD X.K α' F' J ds → Rw J H') (fun c dd H' => W c dd σ H') → Rw J H1 := fun h q => q α1 F1 H1 (List.prefix_refl _) (Same.refl F1) w1 _ h
    cases hx with
    | lst h l => exact ⟨_, rfl, .inl ⟨⟨_, .inl (.inl (w1.sub _ _ h))⟩, fin (walk_list (.inl (.inl h)) l) q1⟩⟩
    | frl h l => exact ⟨_, rfl, .inl ⟨⟨_, w1.sub.seq h⟩, fin (walk_list h l) q1⟩⟩
    | tup h l => exact ⟨_, rfl, .inr (.inl ⟨⟨_, sqt_mono w1.sub h⟩, fin (walk_tup h l) q1⟩)⟩
    | dct h e l =>
      obtain ⟨o, h⟩ := h
      subst e
      exact ⟨_, rfl, .inr (.inr ⟨o, _, w1.sub _ _ h, fin (walk_keys h) q1⟩)⟩
    | _ => exact q1.elim
/-- range(n), range(a, b) -/
def rRange1 (fs : RA) : RA := fun δ μ => (fs δ μ).bind fun ds μ1 => match ds with
  | [.int j] => if -(2 ^ 62) ≤ j ∧ j < 2 ^ 62 then .ok (upTo 0 j.toNat) μ1 else .bad
  | _ => .bad
def rRange2 (fs : RA) : RA := fun δ μ => (fs δ μ).bind fun ds μ1 => match ds with
  | [.int i, .int j] => if -(2 ^ 62) ≤ i ∧ i < 2 ^ 62 ∧ -(2 ^ 62) ≤ j ∧ j < 2 ^ 62 then .ok (upTo i (j - i).toNat) μ1 else .bad
  | _ => .bad
theorem pdi_range1 {X : Cx} {tg a : Expr} {fs : RA} {p pos : Pos} (hg : Gl X "range") (hm : X.mg "range" = none) (ha : PDA X W [a] fs) (hs : starEach [a] X.env = [(false, eval a X.env)] := by rfl) : PDI X W tg (.Call (.Name "range" p) [a] [] pos) (rRange1 fs) :=
  pi_weak (pi_range1 hg hm ha hs) fun σ H R ⟨γ, α, F, μ, δ, w, s, q⟩ => tDA_go w s q fun ds μ1 α1 F1 H1 x p1 e1 w1 s1 hx q1 => by
    split at q1
    · rename_i j
      split at q1
      · rename_i hj
        cases hx with
        | cons h l =>
          cases l; cases h
          exact ⟨j, rfl, hj.1, hj.2, q1 α1 F1 H1 (List.prefix_refl _) (Same.refl F1) w1 _ walk_range⟩
      · exact q1.elim
    · exact q1.elim
theorem pdi_range2 {X : Cx} {tg a b : Expr} {fs : RA} {p pos : Pos} (hg : Gl X "range") (hm : X.mg "range" = none) (ha : PDA X W [a, b] fs) (hs : starEach [a, b] X.env = [(false, eval a X.env), (false, eval b X.env)] := by rfl) (hs2 : starEach [b] X.env = [(false, eval b X.env)] := by rfl) :
    PDI X W tg (.Call (.Name "range" p) [a, b] [] pos) (rRange2 fs) :=
  pi_weak (pi_range2 hg hm ha hs hs2) fun σ H R ⟨γ, α, F, μ, δ, w, s, q⟩ => tDA_go w s q fun ds μ1 α1 F1 H1 x p1 e1 w1 s1 hx q1 => by
    split at q1
    · rename_i i j
      split at q1
      · rename_i hj
        cases hx with
        | cons h l =>
          cases h
          cases l with
          | cons h l =>
            cases l; cases h
            exact ⟨i, j, rfl, hj, q1 α1 F1 H1 (List.prefix_refl _) (Same.refl F1) w1 _ walk_range⟩
      · exact q1.elim
    · exact q1.elim
/-- d.items() -/
def rItemsM (f : RE) : RA := fun δ μ => (f δ μ).bind fun d μ1 => match d with
  | .dct ks xs => .ok ((ks.zip xs).map fun q => D.tup [Key.d q.1, q.2]) μ1
  | _ => .bad
theorem pdi_items {X : Cx} {e : Expr} {elts : List Expr} {kk : Nat} {tpos apos cpos : Pos} {f : RE} (he : PD X W e f) (hbase : attributeBase e "items" X.env (eval e X.env) = eval e X.env := by rfl) (hline : (apos.endLine == cpos.line) = true := by rfl) :
    PDI X W (.Tuple elts kk tpos) (.Call (.Attribute e "items" apos) [] [] cpos) (rItemsM f) :=
  pi_weak (pi_items he hbase hline) fun σ H R ⟨γ, α, F, μ, δ, w, s, q⟩ => tD_go w s q fun d μ1 α1 F1 H1 x p1 e1 w1 s1 hx q1 => by
    cases hx with
    | dct h e l =>
      obtain ⟨o, h⟩ := h
      subst e
      exact ⟨_, o, _, rfl, w1.sub _ _ h, q1 α1 F1 H1 (List.prefix_refl _) (Same.refl F1) w1 _ (walk_items h l)⟩
    | _ => exact q1.elim
end

/-! ### for -/
def forL (t : Tg) (body : RS) : List D → RS
  | [] => fun δ μ => .nx δ μ
  | x :: xs => fun δ μ => match t.set x δ with
    | none => .bad
    | some δ1 => match body δ1 μ with
      | .nx δ2 μ2 => forL t body xs δ2 μ2
      | .ct δ2 μ2 => forL t body xs δ2 μ2
      | .bk δ2 μ2 => .nx δ2 μ2
      | r => r
def rFor (fi : RA) (t : Tg) (body : RS) : RS := fun δ μ => (fi δ μ).st δ fun ds μ1 => forL t body ds δ μ1
theorem psd_for {X : Cx} {W : WX} {tg iter : Expr} {body : List Stmt} {fi : RA} {t : Tg} {fb : RS} {pos : Pos} (hp : PassesOwn (model X.prog X.w) X.A X.env X.xe) (hc : X.calm = true) (hi : PDI X W tg iter fi) (hg : PDG X tg t) (hb : PSDs X W body fb)
    (hs : ∀ x, foldedSetIterable iter X.env x = pure x := by intro _; rfl) : PSD X W (.For tg iter body [] pos) (rFor fi t fb) :=
  ps_weak (ps_for hp hc hi hg hb hs) fun D σ H ⟨γ, α, F, μ, δ, w, s, q⟩ => by
    refine ⟨γ, α, F, μ, δ, w, s, ?_⟩
    unfold rFor at q
    cases hf : fi δ μ with
    | bad => rw [hf] at q; exact q
    | exc x μ1 => rw [hf] at q; exact fun α' F' H' c dd p e w1 hx => q α' F' H' σ c dd p e w1 (s.mono p e) hx
    | ok ds μ1 =>
      rw [hf] at q
      intro α1 F1 H1 p1 e1 w1 J hJ
      have q1 := q.up p1 e1
      have s1 := s.mono p1 e1
      refine ⟨fun i m σ H => m = ds.length - i ∧ i ≤ ds.length ∧ ∃ α' F' μ' δ', Wd X.K γ α' F' H μ' ∧ SlIs X.K α' F' σ δ' ∧ WalkD X.K α' F' J ds ∧ FinS X.K γ α' F' (forL t fb (ds.drop i) δ' μ') D W,
        ⟨ds.length, by simp, Nat.zero_le _, α1, F1, μ1, δ, w1, s1, hJ, q1⟩, ?_⟩
      rintro i m σ2 H2 ⟨rfl, hi, α2, F2, μ2, δ2, w2, s2, hJ2, q2⟩
      obtain ⟨j1, j2⟩ := hJ2 i γ α2 F2 H2 μ2 (List.prefix_refl _) (Same.refl F2) w2
      by_cases hlt : i < ds.length
      · obtain ⟨hgo, hy⟩ := j1 ds[i] (List.getElem?_eq_getElem hlt)
        rw [List.drop_eq_getElem_cons hlt] at q2
        unfold forL at q2
        right
        refine ⟨hgo, fun σ' H' => i + 1 ≤ ds.length ∧ ∃ α' F' μ' δ', Wd X.K γ α' F' H' μ' ∧ SlIs X.K α' F' σ' δ' ∧ WalkD X.K α' F' J ds ∧ FinS X.K γ α' F' (forL t fb (ds.drop (i + 1)) δ' μ') D W,
          fun σ' H' n => ⟨ds.length - (i + 1), by omega, rfl, n.1, n.2⟩, fun x H3 y => ?_⟩
        obtain ⟨F3, e3, w3, hx⟩ := hy x H3 y
        have q3 := q2.up (List.prefix_refl _) e3
        have s3 := s2.mono (List.prefix_refl _) e3
        have hJ3 := hJ2.mono (List.prefix_refl _) e3
        cases ht : t.set ds[i] δ2 with
        | none => rw [ht] at q3; exact q3.elim
        | some δ3 =>
          rw [ht] at q3
          refine Tg.go w3 s3 hx ht fun σ4 s4 _ _ => ⟨γ, α2, F3, μ2, δ3, w3, s4, ?_⟩
          dsimp only at q3
          cases hbd : fb δ3 μ2 with
          | nx δ5 μ5 =>
            rw [hbd] at q3
            exact fun α5 F5 H5 σ5 p5 e5 w5 s5 => ⟨hlt, α5, F5, μ5, δ5, w5, s5, hJ3.mono p5 e5, q3.up p5 e5⟩
          | ct δ5 μ5 =>
            rw [hbd] at q3
            exact fun α5 F5 H5 σ5 p5 e5 w5 s5 => ⟨hlt, α5, F5, μ5, δ5, w5, s5, hJ3.mono p5 e5, q3.up p5 e5⟩
          | bk δ5 μ5 => rw [hbd] at q3; exact q3
          | rt d μ5 => rw [hbd] at q3; exact q3
          | exc x δ5 μ5 => rw [hbd] at q3; exact q3
          | bad => rw [hbd] at q3; exact q3
      · have e : i = ds.length := by omega
        subst e
        rw [List.drop_length] at q2
        exact .inl ⟨j2 rfl, q2.nx_ w2 s2⟩

/-! ### comprehensions -/
abbrev W0 : WX := fun _ _ _ _ => False
/-- the element's readings: nothing raises within -/
def compL (t : Tg) (vs : List Nat) (ft : RT) (fe : RE) : List D → Sl → List Ob → List D → R (List D)
  | [], _, μ, acc => .ok acc μ
  | x :: xs, δ, μ, acc => match t.set x (wipeD δ vs) with
    | none => .bad
    | some δ1 => match ft δ1 μ with
      | .ok true μ1 => match fe δ1 μ1 with
        | .ok y μ2 => if acc.length < 16777216 then compL t vs ft fe xs δ μ2 (acc ++ [y]) else .bad
        | _ => .bad
      | .ok false μ1 => compL t vs ft fe xs δ μ1 acc
      | _ => .bad
def rYes : RT := fun _ μ => .ok true μ
def rLc (fi : RA) (t : Tg) (vs : List Nat) (ft : RT) (fe : RE) : RE := fun δ μ => (fi δ μ).bind fun ds μ1 => (compL t vs ft fe ds δ μ1 []).bind fun ys μ2 => .ok (.lst ys) μ2
abbrev PDTs (X : Cx) (W : WX) (es : List Expr) (f : RT) : Prop := PTs X es (tDT X.K W f)
theorem pts_weak {X : Cx} {e : List Expr} {t t' : TT} (h : PTs X e t) (i : ∀ σ H Q, t' σ H Q → t σ H Q) : PTs X e t' := ⟨fun pins s σ H Q I q => h.run pins s σ H Q I (i _ _ _ q)⟩
theorem pdts_nil {X : Cx} {W : WX} : PDTs X W [] rYes := pts_weak pts_nil fun σ H Q ⟨γ, α, F, μ, δ, w, s, q⟩ => q α F H (List.prefix_refl _) (Same.refl F) w
theorem pdts_one {X : Cx} {W : WX} {c : Expr} {ft : RT} (h : PDT X W c ft) : PDTs X W [c] ft := pts_one h
section
variable {K : PySem.W.Frag} {W : WX}
theorem Wd.gnew {γ : Hp} {α : List Addr} {F H : Hp} {μ : List Ob} {p : Addr} {o : HO} (w : Wd K γ α F H μ) (hp : H p = none) : Wd K (upd γ p o) α F (upd H p o) μ := by
  have w1 := w.lay0 (o := o) hp
  refine ⟨w1.len, w1.inj, w1.sub, w1.there, w1.apart, w1.obj, same_both w.gs, fun a h => ?_, fun k a h => ?_⟩
  · by_cases e : a = p
    · rw [e]; exact w.sub.free hp
    · rw [upd_ne e] at h; exact w.gf a h
  · have ne : a ≠ p := fun e => w.there k a h (by rw [e]; exact hp)
    rw [upd_ne ne]
    exact w.ga k a h
theorem Wd.gput {γ : Hp} {α : List Addr} {F H : Hp} {μ : List Ob} {p : Addr} {o o' : HO} (w : Wd K (upd γ p o) α F H μ) (hp : γ p = none) : Wd K (upd γ p o') α F (upd H p o') μ := by
  have fp : F p = none := w.gf p (by rw [upd_same]; exact Option.some_ne_none _)
  have np : ∀ (k : Nat) a, α[k]? = some a → a ≠ p := fun k a h e => by
    have := w.ga k a h
    rw [e, upd_same] at this
    cases this
  refine ⟨w.len, w.inj, same_upd w.sub fp, fun k a h => ?_, w.apart, fun k a ob h1 h2 => ?_, fun b u hb => ?_, fun a h => ?_, fun k a h => ?_⟩
  · rw [upd_ne (np k a h)]; exact w.there k a h
  · exact (w.obj k a ob h1 h2).mono (List.prefix_refl _) (Same.refl F) (upd_ne (np k a h1))
  · by_cases e : b = p
    · rw [e, upd_same] at hb ⊢
      exact hb
    · rw [upd_ne e] at hb ⊢
      exact w.gs b u (by rw [upd_ne e]; exact hb)
  · by_cases e : a = p
    · rw [e]; exact fp
    · rw [upd_ne e] at h
      exact w.gf a (by rw [upd_ne e]; exact h)
  · have := w.ga k a h
    rw [upd_ne (np k a h)] at this ⊢
    exact this
theorem Wd.gfrz {γ : Hp} {α : List Addr} {F H : Hp} {μ : List Ob} {p : Addr} {o : HO} (w : Wd K (upd γ p o) α F H μ) (hp : γ p = none) : Wd K γ α (upd F p o) H μ := by
  have fp : F p = none := w.gf p (by rw [upd_same]; exact Option.some_ne_none _)
  have hh : H p = some o := w.gs p o upd_same
  have np : ∀ (k : Nat) a, α[k]? = some a → a ≠ p := fun k a h e => by
    have := w.ga k a h
    rw [e, upd_same] at this
    cases this
  refine ⟨w.len, w.inj, fun b u hb => ?_, w.there, fun k a ob h1 h2 h3 => ?_, fun k a ob h1 h2 => ?_, fun b u hb => ?_, fun a h => ?_, fun k a h => ?_⟩
  · by_cases e : b = p
    · rw [e, upd_same] at hb
      rw [e, hh]
      exact hb
    · rw [upd_ne e] at hb
      exact w.sub b u hb
  · rw [upd_ne (np k a h1)]
    exact w.apart k a ob h1 h2 h3
  · exact (w.obj k a ob h1 h2).mono (List.prefix_refl _) (same_new fp) rfl
  · have ne : b ≠ p := fun e => by rw [e, hp] at hb; cases hb
    exact w.gs b u (by rw [upd_ne ne]; exact hb)
  · have ne : a ≠ p := fun e => h (by rw [e]; exact hp)
    rw [upd_ne ne]
    exact w.gf a (by rw [upd_ne ne]; exact h)
  · have := w.ga k a h
    rw [upd_ne (np k a h)] at this
    exact this
/-- .. becomes an object of the store -/
theorem Wd.gobj {γ : Hp} {α : List Addr} {F H : Hp} {μ : List Ob} {p : Addr} {o : HO} {ob : Ob} (w : Wd K (upd γ p o) α F H μ) (hp : γ p = none) (h : ObIs K (α ++ [p]) F H p ob) : Wd K γ (α ++ [p]) F H (μ ++ [ob]) := by
  have fp : F p = none := w.gf p (by rw [upd_same]; exact Option.some_ne_none _)
  have hh : H p = some o := w.gs p o upd_same
  have np : ∀ (k : Nat) a, α[k]? = some a → a ≠ p := fun k a h e => by
    have := w.ga k a h
    rw [e, upd_same] at this
    cases this
  have spl : ∀ (k : Nat) a, (α ++ [p])[k]? = some a → α[k]? = some a ∨ (k = α.length ∧ a = p) := fun k a h1 => by
    by_cases hk : k < α.length
    · rw [List.getElem?_append_left hk] at h1
      exact .inl h1
    · have hl := (List.getElem?_eq_some_iff.mp h1).1
      rw [List.length_append, List.length_singleton] at hl
      have e : k = α.length := by omega
      subst e
      rw [List.getElem?_concat_length] at h1
      exact .inr ⟨rfl, (Option.some.inj h1).symm⟩
  refine ⟨by rw [List.length_append, List.length_append, w.len]; rfl, fun i j a h1 h2 => ?_, w.sub, fun k a h1 => ?_, fun k a ob' h1 h2 h3 => ?_, fun k a ob' h1 h2 => ?_, fun b u hb => ?_, fun a h1 => ?_, fun k a h1 => ?_⟩
  · rcases spl i a h1 with x | ⟨x, y⟩ <;> rcases spl j a h2 with z | ⟨z, u⟩
    · exact w.inj i j a x z
    · exact absurd u (np i a x)
    · exact absurd y (np j a z)
    · rw [x, z]
  · rcases spl k a h1 with x | ⟨x, y⟩
    · exact w.there k a x
    · rw [y, hh]
      exact Option.some_ne_none _
  · rcases spl k a h1 with x | ⟨x, y⟩
    · have hk := (List.getElem?_eq_some_iff.mp x).1
      rw [w.len] at hk
      rw [List.getElem?_append_left hk] at h2
      exact w.apart k a ob' x h2 h3
    · rw [y]; exact fp
  · rcases spl k a h1 with x | ⟨x, y⟩
    · have hk := (List.getElem?_eq_some_iff.mp x).1
      rw [w.len] at hk
      rw [List.getElem?_append_left hk] at h2
      exact (w.obj k a ob' x h2).mono (List.prefix_append _ _) (Same.refl F) rfl
    · rw [x, w.len, List.getElem?_concat_length] at h2
      cases h2
      rw [y]
      exact h
  · have ne : b ≠ p := fun e => by rw [e, hp] at hb; cases hb
    exact w.gs b u (by rw [upd_ne ne]; exact hb)
  · have ne : a ≠ p := fun e => h1 (by rw [e]; exact hp)
    exact w.gf a (by rw [upd_ne ne]; exact h1)
  · rcases spl k a h1 with x | ⟨x, y⟩
    · have := w.ga k a x
      rw [upd_ne (np k a x)] at this
      exact this
    · rw [y]; exact hp
theorem wipe_wipe (σ : St) (vs : List Nat) : L2.wipe (L2.wipe σ vs) vs = L2.wipe σ vs := by
  have comm : ∀ (vs : List Nat) (σ : St) (i : Nat), L2.wipe (σ.set i none) vs = (L2.wipe σ vs).set i none := by
    intro vs
    induction vs with
    | nil => intro σ i; rfl
    | cons j vs ih =>
      intro σ i
      show (L2.wipe (σ.set i none) vs).set j none = ((L2.wipe σ vs).set j none).set i none
      rw [ih]
      by_cases e : i = j
      · rw [e]
      · rw [List.set_comm _ _ e]
  induction vs generalizing σ with
  | nil => rfl
  | cons j vs ih =>
    show (L2.wipe ((L2.wipe σ vs).set j none) vs).set j none = (L2.wipe σ vs).set j none
    rw [comm, ih, List.set_set]
/-- a comprehension -/
theorem tD_lc {fi : RA} {t : Tg} {vs : List Nat} {ft : RT} {fe : RE} (hv : ∀ i ∈ t.slots, i ∈ vs) (σ : St) (H : Hp) (Q : VK) (h : tD K W (rLc fi t vs ft fe) σ H Q) : tLc (tDI K W fi) (t.rd K) (tDT K W0 ft) (tD K W0 fe) vs σ H Q := by
  obtain ⟨γ, α, F, μ, δ, w, s, q⟩ := h
  refine ⟨γ, α, F, μ, δ, w, s, ?_⟩
  unfold rLc at q
  cases hf : fi δ μ with
  | bad => rw [hf] at q; exact q
  | exc x μ1 => rw [hf] at q; exact q
  | ok ds μ1 =>
    rw [hf] at q
    intro α1 F1 H1 p1 e1 w1 J hJ Dl hD
    have q1 := Fin.up p1 e1 q
    have s1 := s.mono p1 e1
    rw [R.ok_bind] at q1
    have gD : γ Dl = none := w1.gs.free hD
    refine ⟨fun i m H => m = ds.length - i ∧ i ≤ ds.length ∧ ∃ α' F' μ' acc ys, Wd K (upd γ Dl (.lst ys)) α' F' H μ' ∧ SlIs K α' F' σ δ ∧ WalkD K α' F' J ds ∧ IsL K α' F' ys acc ∧
        Fin K γ α' F' ((compL t vs ft fe (ds.drop i) δ μ' acc).bind fun ys μ2 => .ok (.lst ys) μ2) (okD K Q) (fun c dd H' => W c dd σ H'),
      ⟨ds.length, by simp, Nat.zero_le _, α1, F1, μ1, [], [], w1.gnew hD, s1, hJ, .nil, by rw [List.drop_zero]; exact q1⟩, ?_⟩
    rintro i m H2 ⟨rfl, hi, α2, F2, μ2, acc, ys, w2, s2, hJ2, hl, q2⟩
    obtain ⟨j1, j2⟩ := hJ2 i _ α2 F2 H2 μ2 (List.prefix_refl _) (Same.refl F2) w2
    by_cases hlt : i < ds.length
    · obtain ⟨hgo, hy⟩ := j1 ds[i] (List.getElem?_eq_getElem hlt)
      rw [List.drop_eq_getElem_cons hlt] at q2
      unfold compL at q2
      right
      refine ⟨hgo, fun H' => i + 1 ≤ ds.length ∧ ∃ α' F' μ' acc ys, Wd K (upd γ Dl (.lst ys)) α' F' H' μ' ∧ SlIs K α' F' σ δ ∧ WalkD K α' F' J ds ∧ IsL K α' F' ys acc ∧
          Fin K γ α' F' ((compL t vs ft fe (ds.drop (i + 1)) δ μ' acc).bind fun ys μ2 => .ok (.lst ys) μ2) (okD K Q) (fun c dd H' => W c dd σ H'),
        fun H' n => ⟨ds.length - (i + 1), by omega, rfl, n.1, n.2⟩, fun x H3 y => ?_⟩
      obtain ⟨F3, e3, w3, hx⟩ := hy x H3 y
      have q3 := Fin.up (List.prefix_refl _) e3 q2
      have s3 := s2.mono (List.prefix_refl _) e3
      cases ht : t.set ds[i] (wipeD δ vs) with
      | none => rw [ht] at q3; exact q3.elim
      | some δ3 =>
        rw [ht] at q3
        refine Tg.go w3 (s3.wipe vs) hx ht fun σ4 s4 hw4 _ => ⟨?_, ?_⟩
        · rw [hw4 vs hv]
          exact wipe_wipe σ vs
        · refine ⟨_, α2, F3, μ2, δ3, w3, s4, ?_⟩
          dsimp only at q3
          cases hft : ft δ3 μ2 with
          | bad => rw [hft] at q3; exact q3.elim
          | exc x μ4 => rw [hft] at q3; exact q3.elim
          | ok b μ4 =>
            rw [hft] at q3
            intro α4 F4 H4 p4 e4 w4
            have q4 := Fin.up p4 e4 q3
            cases b with
            | false =>
              exact iteF ⟨hlt, α4, F4, μ4, acc, ys, w4, s3.mono p4 e4, hJ2.mono p4 (e3.trans e4), hl.mono p4 (e3.trans e4), q4⟩
            | true =>
              refine iteT ⟨_, α4, F4, μ4, δ3, w4, s4.mono p4 e4, ?_⟩
              dsimp only at q4
              cases hfe : fe δ3 μ4 with
              | bad => rw [hfe] at q4; exact q4.elim
              | exc x μ5 => rw [hfe] at q4; exact q4.elim
              | ok z μ5 =>
                rw [hfe] at q4
                intro α5 F5 H5 p5 e5 w5 v hvz
                have q5 := Fin.up p5 e5 q4
                dsimp only at q5
                by_cases hz : acc.length < 16777216
                · rw [if_pos hz] at q5
                  have hl5 := hl.mono (p4.trans p5) ((e3.trans e4).trans e5)
                  refine ⟨ys, w5.gs _ _ upd_same, by rw [hl5.length, sizeLine_eq]; exact hz, hlt, α5, F5, μ5, acc ++ [z], ys ++ [v], w5.gput gD, (s3.mono p4 e4).mono p5 e5, hJ2.mono (p4.trans p5) ((e3.trans e4).trans e5), hl5.append (.cons hvz .nil), q5⟩
                · rw [if_neg hz] at q5; exact q5.elim
    · have e : i = ds.length := by omega
      subst e
      rw [List.drop_length] at q2
      left
      refine ⟨j2 rfl, ?_⟩
      unfold compL at q2
      have fD : F2 Dl = none := w2.gf Dl (by rw [upd_same]; exact Option.some_ne_none _)
      have sn := same_new (o := .lst ys) fD
      exact q2 α2 _ H2 (List.prefix_refl _) sn (w2.gfrz gD) _ (.lst upd_same (hl.mono (List.prefix_refl _) sn))
end
end DL

/-! The data layer, g: comprehensions as rules, calls of the text's own defs, a def's contract by its body. -/
namespace DL
open PySem L2

/-- what a place in the code must have -/
structure Good (X : Cx) (W : WX) (k : Nat) : Prop where
  hr : Room k X.A
  calm : X.calm = true
  nd : X.N.Nodup
  tk : Takes X W
  po : PassesOwn (model X.prog X.w) X.A X.env X.xe
theorem Good.blk {X : Cx} {W : WX} {k : Nat} (g : Good X W k) (s : Shared) (H : Hp) (scope : Scope) (cenv : Env) (fp : List Addr) : Good (X.blk s H scope cenv fp) W0 k :=
  ⟨g.hr, g.calm, g.nd, takes0, PassesOwn.never⟩
theorem Good.mono {X : Cx} {W : WX} {k j : Nat} (g : Good X W k) (h : j ≤ k) : Good X W j := ⟨g.hr.mono h, g.calm, g.nd, g.tk, g.po⟩
theorem Good.hu {X : Cx} {W : WX} {k : Nat} (g : Good X W k) : X.A.units + 65 < cLine := by have := g.hr.un; omega

section
variable {X : Cx} {W : WX} {k : Nat}
theorem pd_lc {elt tg iter : Expr} {ifs : List Expr} {scope : Scope} {own : List (Str × Nat)} {pos : Pos} {fi : RA} {t : Tg} {ft : RT} {fe : RE} (g : Good X W k) (hi : PDI X W tg iter fi) (ok : BlkOk X.N X.env.scope scope own) (hv : ∀ i ∈ t.slots, i ∈ own.map (·.2))
    (hg : ∀ (s : Shared) (H : Hp) (C : Addr) (cl : List (Str × Addr)) (fp : List Addr), PDG (X.blk s H scope (compEnvC scope cl C X.env) fp) tg t)
    (ht : ∀ (s : Shared) (H : Hp) (C : Addr) (cl : List (Str × Addr)) (fp : List Addr), Good (X.blk s H scope (compEnvC scope cl C X.env) fp) W0 k → PDTs (X.blk s H scope (compEnvC scope cl C X.env) fp) W0 ifs ft)
    (he : ∀ (s : Shared) (H : Hp) (C : Addr) (cl : List (Str × Addr)) (fp : List Addr), Good (X.blk s H scope (compEnvC scope cl C X.env) fp) W0 k → PD (X.blk s H scope (compEnvC scope cl C X.env) fp) W0 elt fe)
    (hs : ∀ x, foldedSetIterable iter X.env x = pure x := by intro _; rfl) : PD X W (.ListComp elt [⟨tg, iter, ifs, 0⟩] scope pos) (rLc fi t (own.map (·.2)) ft fe) :=
  pe_weak (pe_lc g.calm g.nd hi ok hg (fun s H C cl fp => ht s H C cl fp (g.blk s H scope _ fp)) (fun s H C cl fp => he s H C cl fp (g.blk s H scope _ fp)) hs) (tD_lc hv)
theorem psd_setLc (i : Nat) {y : Str} {py spos : Pos} {elt tg iter : Expr} {ifs : List Expr} {scope : Scope} {own : List (Str × Nat)} {pos : Pos} {fi : RA} {t : Tg} {ft : RT} {fe : RE} (g : Good X W k)
    (hsw : swapsWith (.ListComp elt [⟨tg, iter, ifs, 0⟩] scope pos) (some (.Name y py)) spos.line X.env = pure true) (hi : PDI X W tg iter fi) (ok : BlkOk X.N X.env.scope scope own) (hv : ∀ i ∈ t.slots, i ∈ own.map (·.2))
    (hg : ∀ (s : Shared) (H : Hp) (C : Addr) (cl : List (Str × Addr)) (fp : List Addr), PDG (X.blk s H scope (compEnvC scope cl C X.env) fp) tg t)
    (ht : ∀ (s : Shared) (H : Hp) (C : Addr) (cl : List (Str × Addr)) (fp : List Addr), Good (X.blk s H scope (compEnvC scope cl C X.env) fp) W0 k → PDTs (X.blk s H scope (compEnvC scope cl C X.env) fp) W0 ifs ft)
    (he : ∀ (s : Shared) (H : Hp) (C : Addr) (cl : List (Str × Addr)) (fp : List Addr), Good (X.blk s H scope (compEnvC scope cl C X.env) fp) W0 k → PD (X.blk s H scope (compEnvC scope cl C X.env) fp) W0 elt fe)
    (hy : X.N[i]? = some y := by rfl) (hyl : X.env.scope.names.lookup y = some .local := by rfl)
    (hs : ∀ x, foldedSetIterable iter X.env x = pure x := by intro _; rfl) : PSD X W (.Assign [.Name y py] (.ListComp elt [⟨tg, iter, ifs, 0⟩] scope pos) spos) (rSet i (rLc fi t (own.map (·.2)) ft fe)) :=
  ps_weak (ps_setLc g.calm g.nd hy hyl hsw hi ok hg (fun s H C cl fp => ht s H C cl fp (g.blk s H scope _ fp)) (fun s H C cl fp => he s H C cl fp (g.blk s H scope _ fp)) hs) fun D σ H ⟨γ, α, F, μ, δ, w, s, q⟩ => by
    refine tD_lc (ft := ft) (fe := fe) hv σ H _ ?_
    exact tD_st w s q fun d μ1 α1 F1 H1 v p1 e1 w1 s1 hv q1 => q1.nx_ w1 (s1.set i hv)
end

/-! ### contracts -/
abbrev Ct := List D → List Ob → R D
def spD (K : PySem.W.Frag) (n : Nat) (ct : Ct) : Sp := fun vs H Q E => vs.length = n ∧ ∃ γ α F μ ds, Wd K γ α F H μ ∧ IsL K α F vs ds ∧ Fin K γ α F (ct ds μ) (okD K Q) E
/-- a def of the text that keeps a contract, by its name -/
structure Cal (P : Program) (w : World) (K : PySem.W.Frag) (mg : Str → Option Value) (base : Heap) (k : Nat) (x : Str) (n : Nat) (ct : Ct) : Prop where
  ex : ∃ (f : Addr) (fd : FuncData) (ps : List Str), ps.length = n ∧ FnOk P w K mg base (L2.CX P w) k f fd ps (spD K n ct) ∧ mg x = some (.ref f) ∧ PySem.W.keepIn K (.ref f) = true ∧ Binds K fd ps []
def rCall (n : Nat) (ct : Ct) (fs : RA) : RE := fun δ μ => (fs δ μ).bind fun ds μ1 => if ds.length = n then ct ds μ1 else .bad
section
variable {X : Cx} {W : WX} {k j n : Nat} {x : Str} {ct : Ct}
theorem pd_call {e : Expr} {es : List Expr} {fs : RA} {p pos : Pos} (c : Cal X.prog X.w X.K X.mg X.base k x n ct) (g : Good X W j) (ha : PDA X W (e :: es) fs) (hk : k ≤ j := by decide) (hg : Gl X x := by rfl) (hdb : (x == ("__debug__" : Str)) = false := by decide)
    (he : starEach (e :: es) X.env = (false, eval e X.env) :: starEach es X.env := by rfl) (hpl : (backTo pos (starEach es X.env)).any (·.1) = false := by rfl) : PD X W (.Call (.Name x p) (e :: es) [] pos) (rCall n ct fs) := by
  obtain ⟨f, fd, ps, hn, F, hm, kp, hb⟩ := c.ex
  refine pe_weak (pe_callS F (g.hr.mono hk) hg hm kp hb (fun σ => passAt g.tk σ) ha hdb he hpl) fun σ H Q ⟨γ, α, F, μ, δ, w, s, q⟩ => ?_
  refine tDA_go w s q fun ds μ1 α1 F1 H1 vs p1 e1 w1 s1 hv q1 => ?_
  by_cases hl : ds.length = n
  · rw [if_pos hl] at q1
    exact ⟨by rw [hv.length]; exact hl, γ, α1, F1, μ1, ds, w1, hv, q1⟩
  · rw [if_neg hl] at q1; exact q1.elim
def noX (r : R D) : R D := match r with
  | .ok d μ => .ok d μ
  | _ => .bad
theorem pd_call0 {p pos : Pos} (c : Cal X.prog X.w X.K X.mg X.base k x 0 ct) (g : Good X W j) (hk : k ≤ j := by decide) (hg : Gl X x := by rfl) (hdb : (x == ("__debug__" : Str)) = false := by decide) : PD X W (.Call (.Name x p) [] [] pos) (fun _ μ => noX (ct [] μ)) := by
  obtain ⟨f, fd, ps, hn', F, hm, kp, hb⟩ := c.ex
  refine pe_weak (pe_call0 F (g.hr.mono hk) hg hm kp hb .nil passL hdb) fun σ H Q ⟨γ, α, F, μ, δ, w, s, q⟩ => ?_
  refine ⟨rfl, γ, α, F, μ, [], w, .nil, ?_⟩
  replace q : Fin X.K γ α F (noX (ct [] μ)) (okD X.K Q) (fun c dd H' => W c dd σ H') := q
  cases hc : ct [] μ with
  | ok d μ1 => rw [hc] at q; exact q
  | exc x μ1 => rw [hc] at q; exact q.elim
  | bad => rw [hc] at q; exact q
end

/-! ### a contract by its body -/
mutual
theorem sc_le {n m : Nat} (h : n ≤ m) : ∀ d : D, d.sc n = true → d.sc m = true
  | .tup xs, e => by rw [D.sc] at e ⊢; exact scL_le h xs e
  | .lst xs, e => by rw [D.sc] at e ⊢; exact scL_le h xs e
  | .frl xs, e => by rw [D.sc] at e ⊢; exact scL_le h xs e
  | .dct _ xs, e => by rw [D.sc] at e ⊢; exact scL_le h xs e
  | .ins _ _ xs, e => by rw [D.sc] at e ⊢; exact scL_le h xs e
  | .loc k, e => by
    rw [D.sc] at e ⊢
    have := of_decide_eq_true e
    exact decide_eq_true (by omega)
  | .non, _ => by simp [D.sc]
  | .bl _, _ => by simp [D.sc]
  | .int _, _ => by simp [D.sc]
  | .str _, _ => by simp [D.sc]
  | .vv _, _ => by simp [D.sc]
theorem scL_le {n m : Nat} (h : n ≤ m) : ∀ xs : List D, scL n xs = true → scL m xs = true
  | [], _ => by simp [scL]
  | x :: xs, e => by
    rw [scL, Bool.and_eq_true] at e ⊢
    exact ⟨sc_le h x e.1, scL_le h xs e.2⟩
end
theorem obsc_le {n m : Nat} (h : n ≤ m) (o : Ob) (e : o.sc n = true) : o.sc m = true := by
  cases o with
  | lst xs => exact scL_le h xs e
  | dct _ xs => exact scL_le h xs e
  | ins _ _ xs => exact scL_le h xs e
  | dead => rfl
/-- the store behind a def: as it stands, or without what was made on the way -/
def Keep (μ μ1 : List Ob) (ds : List D) (μe : List Ob) : Prop :=
  μe = μ1 ∨ ((∃ j, μe = μ1 ++ j) ∧ μ.length ≤ μ1.length ∧ scL μ1.length ds = true ∧ ∀ (k : Nat) o, μ1[k]? = some o → μ[k]? = some o ∨ o.sc μ1.length = true)
theorem Keep.pure {μ : List Ob} {d : D} {j : List Ob} (h : d.sc 0 = true) : Keep μ μ [d] (μ ++ j) :=
  .inr ⟨⟨j, rfl⟩, Nat.le_refl _, by rw [scL, sc_le (Nat.zero_le _) d h]; rfl, fun _ _ h => .inl h⟩
def Cov (μ : List Ob) (c : R D) (r : SO) : Prop := match c with
  | .bad => True
  | .ok d μ1 => match r with
    | .rt d' μe => d = d' ∧ Keep μ μ1 [d] μe
    | .nx _ μe => d = .non ∧ Keep μ μ1 [] μe
    | _ => False
  | .exc x μ1 => match r with
    | .exc x' _ μe => x = x' ∧ Keep μ μ1 x.xs μe
    | _ => False
section
variable {K : PySem.W.Frag} {γ : Hp} {α α' : List Addr} {F F' H H' : Hp} {μ μ1 μe : List Ob}
theorem Keep.go {ds : List D} (h : Keep μ μ1 ds μe) (w : Wd K γ α F H μ) (p : α <+: α') (w' : Wd K γ α' F' H' μe) : ∃ α'', α <+: α'' ∧ Wd K γ α'' F' H' μ1 ∧ ∀ vs, IsL K α' F' vs ds → IsL K α'' F' vs ds := by
  rcases h with h | ⟨⟨j, h⟩, hl, hs, ho⟩
  · subst h
    exact ⟨α', p, w', fun _ q => q⟩
  · subst h
    refine ⟨α'.take μ1.length, ?_, ?_, fun vs q => q.cut hs⟩
    · obtain ⟨t, rfl⟩ := p
      have hn : α.length ≤ μ1.length := by rw [w.len]; exact hl
      rw [List.take_append]
      rw [List.take_of_length_le hn]
      exact List.prefix_append _ _
    · have := w'.cut (n := μ1.length) fun k o hk ho' => by
        rw [List.getElem?_append_left hk] at ho'
        rcases ho k o ho' with q | q
        · obtain ⟨a, ha⟩ : ∃ a, α[k]? = some a := by
            have hlt := (List.getElem?_eq_some_iff.mp q).1
            rw [← w.len] at hlt
            exact ⟨α[k], List.getElem?_eq_getElem hlt⟩
          have := (w.obj k a o ha q).scoped
          exact obsc_le (by rw [w.len]; exact hl) o this
        · exact q
      rw [List.take_left' rfl] at this
      exact this
theorem fn_cal {P : Program} {w : World} {mg : Str → Option Value} {base : Heap} {x qual : Str} {st : Stmt} {f : Addr} {fd : FuncData} {N ps : List Str} {k : Nat} {ct : Ct} {fb : RS} (Fu : Fun K x qual st f fd) (S : FnScope N ps (defScope st)) (hnp : ps.length ≤ N.length := by decide)
    (body : ∀ (cdv : Value) (A : Around) (outer : List Env) (s : Shared) (H : Hp) (E : XK), Good (cxOf (L2.CX P w) P w K mg base N qual (defScope st) f cdv A outer s H E) (fun c d _ H' => E c d H') k → PSDs (cxOf (L2.CX P w) P w K mg base N qual (defScope st) f cdv A outer s H E) (fun c d _ H' => E c d H') (defBody st) fb)
    (cov : ∀ ds μ, ds.length = ps.length → Cov μ (ct ds μ) (fb (ds.map some ++ List.replicate (N.length - ps.length) none) μ)) : FnOk P w K mg base (L2.CX P w) (k + 1) f fd ps (spD K ps.length ct) := by
  refine Fu.okX S (fun vs H Q E h => h.1) fun cdv A outer s H vs Q E hr h => ?_
  refine ⟨_, body cdv A outer s H E ⟨hr, rfl, S.nd, takes_of rfl rfl rfl rfl, passes_of rfl⟩, ?_⟩
  obtain ⟨hl, γ, α, F, μ, ds, w0, hds, q⟩ := h
  have hdl : ds.length = ps.length := by rw [← hds.length]; exact hl
  have s0 : SlIs K α F (L2.start N vs) (ds.map some ++ List.replicate (N.length - ps.length) none) := by
    unfold L2.start
    rw [hl]
    refine ⟨by simp [hds.length], fun i d e => ?_⟩
    by_cases hi : i < ds.length
    · rw [List.getElem?_append_left (by rw [List.length_map]; exact hi)] at e
      rw [List.getElem?_map, List.getElem?_eq_getElem hi] at e
      have e' : ds[i] = d := by simpa using e
      obtain ⟨v, h1, h2⟩ := hds.get (i := i) (d := d) (by rw [List.getElem?_eq_getElem hi, e'])
      have hi2 : i < vs.length := by rw [hds.length]; exact hi
      exact ⟨v, by rw [List.getElem?_append_left (by rw [List.length_map]; exact hi2), List.getElem?_map, h1]; rfl, h2⟩
    · rw [List.getElem?_append_right (by rw [List.length_map]; omega), List.getElem?_replicate] at e
      split at e <;> cases e
  refine ⟨γ, α, F, μ, _, w0, s0, ?_⟩
  have cv := cov ds μ hdl
  cases hc : ct ds μ with
  | bad => rw [hc] at q; exact q.elim
  | ok d μ1 =>
    rw [hc] at q cv
    cases hb : fb (ds.map some ++ List.replicate (N.length - ps.length) none) μ with
    | rt d' μe =>
      rw [hb] at cv
      obtain ⟨rfl, kp⟩ := cv
      intro α' F' H' v p e w' hv
      obtain ⟨α'', p2, w2, k2⟩ := kp.go w0 p w'
      have := k2 [v] (.cons hv .nil)
      cases this with
      | cons hv2 _ => exact q α'' F' H' p2 e w2 v hv2
    | nx δ' μe =>
      rw [hb] at cv
      obtain ⟨rfl, kp⟩ := cv
      intro α' F' H' σ' p e w' s'
      obtain ⟨α'', p2, w2, k2⟩ := kp.go w0 p w'
      exact q α'' F' H' p2 e w2 .non .non
    | _ => rw [hb] at cv; exact cv.elim
  | exc x μ1 =>
    rw [hc] at q cv
    cases hb : fb (ds.map some ++ List.replicate (N.length - ps.length) none) μ with
    | exc x' δ' μe =>
      rw [hb] at cv
      obtain ⟨rfl, kp⟩ := cv
      intro α' F' H' σ' c dd p e w' s' hx
      obtain ⟨α'', p2, w2, k2⟩ := kp.go w0 p w'
      refine q α'' F' H' c dd p2 e w2 ?_
      obtain ⟨h1, h2 | ⟨d, fv, h3, h4, h5, h6⟩⟩ := hx
      · exact ⟨h1, .inl h2⟩
      · exact ⟨h1, .inr ⟨d, fv, h3, h4, h5, k2 _ h6⟩⟩
    | _ => rw [hb] at cv; exact cv.elim
end
end DL

/-! The data layer, h: built-ins by name. -/
namespace DL
open PySem L2

def Opn (K : PySem.W.Frag) (r : List V → Hp → VK → Prop) (g : List D → List Ob → R D) : Prop :=
  ∀ γ α F H μ vs ds Q E, Wd K γ α F H μ → IsL K α F vs ds → Fin K γ α F (g ds μ) (okD K Q) E → r vs H Q
def rCB (g : List D → List Ob → R D) (fs : RA) : RE := fun δ μ => (fs δ μ).bind g
section
variable {X : Cx} {W : WX} {e : Expr} {es : List Expr} {fs : RA} {pos p : Pos} {r : List V → Hp → VK → Prop} {g : List D → List Ob → R D} {x : Str} {id T : String}
theorem tD_cb {K : PySem.W.Frag} (h : Opn K r g) (σ : St) (H : Hp) (Q : VK) : tD K W (rCB g fs) σ H Q → tCB r (tDA K W fs) σ H Q := fun ⟨γ, α, F, μ, δ, w, s, q⟩ =>
  tDA_go w s q fun ds μ1 α1 F1 H1 vs p1 e1 w1 s1 hv q1 => h γ α1 F1 H1 μ1 vs ds Q _ w1 hv q1
theorem pd_callB (hc : CallR X (.builtin id) r) (h : Opn X.K r g) (hv : bootBuiltins x = some (.builtin id)) (hm : X.mg x = none) (ha : PDA X W (e :: es) fs) (hg : Gl X x := by rfl) (hn : x ≠ "__name__" := by decide) (hdb : (x == ("__debug__" : Str)) = false := by decide)
    (he : starEach (e :: es) X.env = (false, eval e X.env) :: starEach es X.env := by rfl) (hpl : (backTo pos (starEach es X.env)).any (·.1) = false := by rfl) : PD X W (.Call (.Name x p) (e :: es) [] pos) (rCB g fs) :=
  pe_weak (pe_callB hc hg hm hv ha hn hdb he hpl) (tD_cb h)
theorem pd_callT (hc : CallR X (.type T) r) (h : Opn X.K r g) (hv : bootBuiltins x = some (.type T)) (hm : X.mg x = none) (ha : PDA X W (e :: es) fs) (hg : Gl X x := by rfl) (hn : x ≠ "__name__" := by decide) (hdb : (x == ("__debug__" : Str)) = false := by decide)
    (he : starEach (e :: es) X.env = (false, eval e X.env) :: starEach es X.env := by rfl) (hpl : (backTo pos (starEach es X.env)).any (·.1) = false := by rfl) : PD X W (.Call (.Name x p) (e :: es) [] pos) (rCB g fs) :=
  pe_weak (pe_callTy hc hg hm hv ha hn hdb he hpl) (tD_cb h)
end
section
variable {K : PySem.W.Frag} {γ : Hp} {α : List Addr} {F H : Hp} {μ : List Ob} {Q : VK} {E : XK}
theorem IsL.one {vs : List V} {d : D} (h : IsL K α F vs [d]) : ∃ v, vs = [v] ∧ Is K α F v d := by
  cases h with
  | cons h t => cases t; exact ⟨_, rfl, h⟩
theorem IsL.two {vs : List V} {d e : D} (h : IsL K α F vs [d, e]) : ∃ v u, vs = [v, u] ∧ Is K α F v d ∧ Is K α F u e := by
  cases h with
  | cons h t =>
    obtain ⟨u, rfl, h2⟩ := t.one
    exact ⟨_, _, rfl, h, h2⟩
theorem fin_ok {d : D} {v : V} (w : Wd K γ α F H μ) (hv : Is K α F v d) (q : Fin K γ α F (.ok d μ) (okD K Q) E) : Q v H := q α F H (List.prefix_refl _) (Same.refl F) w v hv
/-- a thing is laid and never changed -/
theorem fin_lay {d : D} {p : Addr} {o : HO} {v : V} (w : Wd K γ α F H μ) (hp : H p = none) (hv : Is K α (upd F p o) v d) (q : Fin K γ α F (.ok d μ) (okD K Q) E) : Q v (upd H p o) :=
  q α _ _ (List.prefix_refl _) (same_new (w.sub.free hp)) (w.lay hp) v hv

/-! ### len -/
def lenD : List D → List Ob → R D := fun ds μ => match ds with
  | [d] => match d.view μ with
    | .str z => if z.length ≤ 16777216 then .ok (.int (z.length : Nat)) μ else .bad
    | .lst xs => .ok (.int (xs.length : Nat)) μ
    | .frl xs => .ok (.int (xs.length : Nat)) μ
    | .tup xs => .ok (.int (xs.length : Nat)) μ
    | .dct _ xs => .ok (.int (xs.length : Nat)) μ
    | _ => .bad
  | _ => .bad
def rLenA (K : PySem.W.Frag) : List V → Hp → VK → Prop := fun xs H Q => (∃ x n, xs = [x] ∧ LenV K x H n ∧ Q (.int n) H) ∨ ∃ a kvs, xs = [V.ref a] ∧ RdD H a kvs ∧ Q (.int kvs.length) H
theorem call_lenA {X : Cx} : CallR X (.builtin "len") (rLenA X.K) := CallR.or call_len call_lenK
theorem opn_len : Opn K (rLenA K) lenD := fun γ α F H μ vs ds Q E w hv q => by
  unfold lenD at q
  match ds, hv, q with
  | [], _, q => exact q.elim
  | _ :: _ :: _, _, q => exact q.elim
  | [d], hv, q =>
    obtain ⟨v, rfl, h⟩ := hv.one
    have vw := w.view h
    simp only at q
    cases hd : d.view μ with
    | str z =>
      rw [hd] at q vw
      have := Is.toStr (K := K) vw
      subst this
      simp only at q
      split at q
      · exact .inl ⟨_, _, rfl, ⟨by rw [sizeLine_eq]; assumption, rfl⟩, fin_ok w (.int _) q⟩
      · exact q.elim
    | lst xs =>
      rw [hd] at q vw
      obtain ⟨a, us, rfl, ha, l⟩ := vw
      exact .inl ⟨_, _, rfl, .inl ⟨us, .inl (.inl ha), rfl⟩, by rw [l.length]; exact fin_ok w (.int _) q⟩
    | frl xs =>
      rw [hd] at q vw
      obtain ⟨a, us, rfl, ha, l⟩ := vw
      exact .inl ⟨_, _, rfl, .inl ⟨us, ha, rfl⟩, by rw [l.length]; exact fin_ok w (.int _) q⟩
    | tup xs =>
      rw [hd] at q vw
      obtain ⟨a, us, rfl, ha, l⟩ := vw
      exact .inl ⟨_, _, rfl, .inr ⟨us, ha, rfl⟩, by rw [l.length]; exact fin_ok w (.int _) q⟩
    | dct ks xs =>
      rw [hd] at q vw
      obtain ⟨a, kvs, rfl, ha, _, l⟩ := vw
      have e := l.length
      rw [List.length_map] at e
      exact .inr ⟨a, kvs, rfl, ha, by rw [e]; exact fin_ok w (.int _) q⟩
    | _ => rw [hd] at q; exact q.elim

/-! ### isinstance -/
def D.tyS : D → Option String
  | .non => some "NoneType"
  | .bl _ => some "bool"
  | .int _ => some "int"
  | .str _ => some "str"
  | .tup _ => some "tuple"
  | .lst _ => some "list"
  | .dct _ _ => some "dict"
  | _ => none
/-- isinstance, by what a value's look says -/
def isiD (c : V) (q : D → Option Bool) : List D → List Ob → R D := fun ds μ => match ds with
  | [d, .vv u] => if u = c then (match q (d.view μ) with
    | some b => .ok (.bl b) μ
    | none => .bad) else .bad
  | _ => .bad
def IsiQ (K : PySem.W.Frag) (c : V) (q : D → Option Bool) : Prop := ∀ α F H v d b, Vw K α F H v d → q d = some b → ∃ t u, ClsV c u ∧ TyX K H v t ∧ PySem.W.kitOne K t u = some b
theorem opn_isi {c : V} {q : D → Option Bool} (hq : IsiQ K c q) : Opn K (rIsi K) (isiD c q) := fun γ α F H μ vs ds Q E w hv h => by
  unfold isiD at h
  split at h
  · rename_i d u
    obtain ⟨v, x, rfl, h1, h2⟩ := hv.two
    have e := Is.toVv h2
    subst e
    split at h
    · rename_i hu
      subst hu
      cases hd : q (d.view μ) with
      | none => rw [hd] at h; exact h.elim
      | some b =>
        rw [hd] at h
        obtain ⟨t, u, k1, k2, k3⟩ := hq α F H v _ b (w.view h1) hd
        exact ⟨v, _, t, u, b, rfl, k1, k2, k3, fin_ok w (.bl b) h⟩
    · exact h.elim
  · exact h.elim
theorem tyx_tup {a : Addr} {xs : List V} (h : SqT K H a xs) : TyX K H (.ref a) (.type "tuple") := by
  rcases h with (h | ⟨o, h⟩) | ⟨o, its, n, h1, h2, _⟩
  · exact .base (.tup h)
  · exact .fTuple h
  · exact .kTuple h1 h2
theorem tyx_of {v : V} {d : D} {T : String} (h : Vw K α F H v d) (e : d.tyS = some T) : TyX K H v (.type T) := by
  cases d with
  | non => cases e; cases Is.toNon (K := K) h; exact .base .non
  | bl b => cases e; cases Is.toBl (K := K) h; exact .base (.bl b)
  | int b => cases e; cases Is.toInt (K := K) h; exact .base (.int b)
  | str b => cases e; cases Is.toStr (K := K) h; exact .base (.str b)
  | tup b => cases e; obtain ⟨a, us, rfl, ha, l⟩ := h; exact tyx_tup ha
  | lst b => cases e; obtain ⟨a, us, rfl, ha, l⟩ := h; exact .base (.lst ha)
  | dct ks b =>
    cases e
    obtain ⟨a, us, rfl, ha, l⟩ := h
    rcases ha with ha | ⟨o, ha⟩
    · exact .base (.dK ha)
    · exact .fDict ha
  | _ => cases e
/-- against a built-in type -/
def isT (T : String) (d : D) : Option Bool := match d.tyS with
  | some S => kitB S T
  | none => none
theorem isiQ_ty {T : String} : IsiQ K (.ty T) (isT T) := fun α F H v d b h e => by
  unfold isT at e
  cases hs : d.tyS with
  | none => rw [hs] at e; cases e
  | some S =>
    rw [hs] at e
    exact ⟨_, _, .ty T, tyx_of h hs, kit_ty e⟩

/-! ### int, str -/
def intD : List D → List Ob → R D := fun ds μ => match ds with
  | [.int i] => .ok (.int i) μ
  | [.bl k] => .ok (.int (if k then 1 else 0)) μ
  | [.str a] => match PySem.intText? a with
    | some n => if a.length ≤ 640 then .ok (.int n) μ else .bad
    | none => .bad
  | _ => .bad
abbrev rIntA : List V → Hp → VK → Prop := fun xs H Q => ((∃ i, xs = [.int i] ∧ Q (.int i) H) ∨ ∃ k, xs = [.bl k] ∧ Q (.int (if k then 1 else 0)) H) ∨ (∃ a n, xs = [.str a] ∧ PySem.intText? a = some n ∧ a.length ≤ 640 ∧ Q (.int n) H)
theorem call_intA {X : Cx} : CallR X (.type "int") rIntA := CallR.or call_int1 call_int_str
theorem opn_int : Opn K rIntA intD := fun γ α F H μ vs ds Q E w hv q => by
  unfold intD at q
  split at q
  · rename_i i
    obtain ⟨v, rfl, h⟩ := hv.one
    cases h
    exact .inl (.inl ⟨_, rfl, fin_ok w (.int _) q⟩)
  · obtain ⟨v, rfl, h⟩ := hv.one
    cases h
    exact .inl (.inr ⟨_, rfl, fin_ok w (.int _) q⟩)
  · obtain ⟨v, rfl, h⟩ := hv.one
    cases h
    split at q
    · rename_i n hn
      split at q
      · rename_i hl
        exact .inr ⟨_, n, rfl, hn, hl, fin_ok w (.int _) q⟩
      · exact q.elim
    · exact q.elim
  · exact q.elim
def strD : List D → List Ob → R D := fun ds μ => match ds with
  | [.int i] => if i.natAbs.log2 < 1920 then .ok (.str (toString i)) μ else .bad
  | [.str a] => .ok (.str a) μ
  | _ => .bad
abbrev rStrA : List V → Hp → VK → Prop := fun xs H Q => (∃ i : Int, xs = [.int i] ∧ i.natAbs.log2 < 1920 ∧ Q (.str (toString i)) H) ∨ ∃ a, xs = [.str a] ∧ Q (.str a) H
theorem call_strA {X : Cx} : CallR X (.type "str") rStrA := CallR.or call_str_int SkE.call_str_str
theorem opn_str : Opn K rStrA strD := fun γ α F H μ vs ds Q E w hv q => by
  unfold strD at q
  split at q
  · obtain ⟨v, rfl, h⟩ := hv.one
    cases h
    split at q
    · exact .inl ⟨_, rfl, by assumption, fin_ok w (.str _) q⟩
    · exact q.elim
  · obtain ⟨v, rfl, h⟩ := hv.one
    cases h
    exact .inr ⟨_, rfl, fin_ok w (.str _) q⟩
  · exact q.elim

/-! ### list, tuple -/
/-- what list(..) and tuple(..) take out -/
def elsD : D → Option (List D)
  | .lst xs => some xs
  | .frl xs => some xs
  | .tup xs => some xs
  | .dct ks _ => some (ks.map Key.d)
  | _ => none
def listD (m : Bool) : List D → List Ob → R D := fun ds μ => match ds with
  | [d] => match elsD (d.view μ) with
    | some xs => if m then .ok (.loc μ.length) (μ ++ [.lst xs]) else .ok (.lst xs) μ
    | none => .bad
  | _ => .bad
def rListA (K : PySem.W.Frag) : List V → Hp → VK → Prop := fun xs H Q => (∃ p ys, xs = [.ref p] ∧ (SqL K H p ys ∨ SqT K H p ys) ∧ ∀ l, H l = none → Q (.ref l) (upd H l (.lst ys))) ∨
  (∃ (a : Addr) (kvs : List (Key × V)), xs = [.ref a] ∧ RdD H a kvs ∧ ∀ p, H p = none → Q (.ref p) (upd H p (.lst (kvs.map fun kv => kV kv.1))))
theorem call_listA {X : Cx} (hc : X.calm = true) : CallR X (.type "list") (rListA X.K) := CallR.or call_list_of (call_listK hc)
theorem keys_is : ∀ (ks : List Key), IsL K α F (ks.map kV) (ks.map Key.d)
  | [] => .nil
  | k :: ks => .cons key_is (keys_is ks)
theorem els_of {v : V} {d : D} {xs : List D} (h : Vw K α F H v d) (e : elsD d = some xs) : (∃ p ys, v = .ref p ∧ (SqL K H p ys ∨ SqT K H p ys) ∧ IsL K α F ys xs) ∨ (∃ a kvs, v = .ref a ∧ RdD H a kvs ∧ IsL K α F (kvs.map fun kv => kV kv.1) xs) := by
  cases d with
  | lst ys => cases e; obtain ⟨a, us, rfl, ha, l⟩ := h; exact .inl ⟨a, us, rfl, .inl (.inl (.inl ha)), l⟩
  | frl ys => cases e; obtain ⟨a, us, rfl, ha, l⟩ := h; exact .inl ⟨a, us, rfl, .inl ha, l⟩
  | tup ys => cases e; obtain ⟨a, us, rfl, ha, l⟩ := h; exact .inl ⟨a, us, rfl, .inr ha, l⟩
  | dct ks ys =>
    cases e
    obtain ⟨a, kvs, rfl, ha, rfl, l⟩ := h
    refine .inr ⟨a, kvs, rfl, ha, ?_⟩
    have := keys_is (K := K) (α := α) (F := F) (kvs.map (·.1))
    rw [List.map_map] at this
    exact this
  | _ => cases e
theorem fin_new {xs : List D} {ys : List V} {m : Bool} {l : Addr} (w : Wd K γ α F H μ) (hl : H l = none) (h : IsL K α F ys xs) (q : Fin K γ α F (if m then .ok (.loc μ.length) (μ ++ [.lst xs]) else .ok (.lst xs) μ) (okD K Q) E) : Q (.ref l) (upd H l (.lst ys)) := by
  cases m with
  | true => exact q (α ++ [l]) F _ (List.prefix_append _ _) (Same.refl F) (w.newLst hl h) _ (.loc (w.newAt l))
  | false => exact fin_lay w hl (.lst upd_same (h.mono (List.prefix_refl _) (same_new (w.sub.free hl)))) q
theorem opn_list (m : Bool) : Opn K (rListA K) (listD m) := fun γ α F H μ vs ds Q E w hv q => by
  unfold listD at q
  match ds, hv, q with
  | [], _, q => exact q.elim
  | _ :: _ :: _, _, q => exact q.elim
  | [d], hv, q =>
    obtain ⟨v, rfl, h⟩ := hv.one
    simp only at q
    cases he : elsD (d.view μ) with
    | none => rw [he] at q; exact q.elim
    | some xs =>
      rw [he] at q
      simp only at q
      rcases els_of (w.view h) he with ⟨p, ys, rfl, hs, l⟩ | ⟨a, kvs, rfl, hs, l⟩
      · exact .inl ⟨p, ys, rfl, hs, fun l' hl => fin_new w hl l q⟩
      · exact .inr ⟨a, kvs, rfl, hs, fun l' hl => fin_new w hl l q⟩
def tupD : List D → List Ob → R D := fun ds μ => match ds with
  | [d] => match d.view μ with
    | .lst xs => .ok (.tup xs) μ
    | .tup xs => .ok (.tup xs) μ
    | _ => .bad
  | _ => .bad
def rTupA (K : PySem.W.Frag) : List V → Hp → VK → Prop := (fun xs H Q => ∃ p ys, xs = [.ref p] ∧ ((SqL K H p ys ∧ ∀ l, H l = none → Q (.ref l) (upd H l (.tup ys))) ∨ (SqT K H p ys ∧ Q (.ref p) H)))
theorem opn_tup : Opn K (rTupA K) tupD := fun γ α F H μ vs ds Q E w hv q => by
  unfold tupD at q
  match ds, hv, q with
  | [], _, q => exact q.elim
  | _ :: _ :: _, _, q => exact q.elim
  | [d], hv, q =>
    obtain ⟨v, rfl, h⟩ := hv.one
    have vw := w.view h
    simp only at q
    cases hd : d.view μ with
    | lst xs =>
      rw [hd] at q vw
      obtain ⟨a, us, rfl, ha, l⟩ := vw
      exact ⟨a, us, rfl, .inl ⟨.inl (.inl ha), fun p hp => fin_lay w hp (.tup (.inl (.inl upd_same)) (l.mono (List.prefix_refl _) (same_new (w.sub.free hp)))) q⟩⟩
    | tup xs =>
      rw [hd] at q vw
      have e := view_tup hd
      subst e
      obtain ⟨a, us, rfl, ha, l⟩ := vw
      exact ⟨a, us, rfl, .inr ⟨ha, fin_ok w h q⟩⟩
    | _ => rw [hd] at q; exact q.elim

/-! ### max, min, all, any -/
def max2D : List D → List Ob → R D := fun ds μ => match ds with
  | [.int i, .int j] => .ok (.int (if j > i then j else i)) μ
  | _ => .bad
theorem opn_max2 : Opn K (fun xs H Q => ∃ i j, xs = [.int i, .int j] ∧ Q (.int (if j > i then j else i)) H) max2D := fun γ α F H μ vs ds Q E w hv q => by
  unfold max2D at q
  split at q
  · obtain ⟨v, u, rfl, h1, h2⟩ := hv.two
    cases h1; cases h2
    exact ⟨_, _, rfl, fin_ok w (.int _) q⟩
  · exact q.elim
def blsD : List D → Option (List Bool)
  | [] => some []
  | .bl b :: r => (blsD r).map (b :: ·)
  | _ => none
theorem bls_is : ∀ {xs : List D} {bs : List Bool} {vs : List V}, blsD xs = some bs → IsL K α F vs xs → vs = bs.map V.bl
  | [], bs, vs, e, h => by cases e; cases h; rfl
  | d :: r, bs, vs, e, h => by
    cases d with
    | bl b =>
      rw [blsD] at e
      cases hr : blsD r with
      | none => rw [hr] at e; cases e
      | some cs =>
        rw [hr] at e
        cases e
        cases h with
        | cons h t => cases h; rw [bls_is hr t]; rfl
    | _ => cases e
def allD (any : Bool) : List D → List Ob → R D := fun ds μ => match ds with
  | [d] => match elsD (d.view μ), d.view μ with
    | some xs, .lst _ => match blsD xs with
      | some bs => .ok (.bl (if any then bs.any id else bs.all id)) μ
      | none => .bad
    | _, _ => .bad
  | _ => .bad
theorem opn_all0 {any : Bool} {ds : List D} {vs : List V} (w : Wd K γ α F H μ) (hv : IsL K α F vs ds) (q : Fin K γ α F (allD any ds μ) (okD K Q) E) :
    ∃ (a : Addr) (bs : List Bool), vs = [V.ref a] ∧ SqL K H a (bs.map V.bl) ∧ Q (.bl (if any then bs.any id else bs.all id)) H := by
  unfold allD at q
  match ds, hv, q with
  | [], _, q => exact q.elim
  | _ :: _ :: _, _, q => exact q.elim
  | [d], hv, q =>
    obtain ⟨v, rfl, h⟩ := hv.one
    have vw := w.view h
    simp only at q
    cases hd : d.view μ with
    | lst xs =>
      rw [hd] at q vw
      obtain ⟨a, us, rfl, ha, l⟩ := vw
      simp only [elsD] at q
      cases hb : blsD xs with
      | none => rw [hb] at q; exact q.elim
      | some bs =>
        rw [hb] at q
        have := bls_is hb l
        subst this
        exact ⟨a, bs, rfl, .inl (.inl ha), fin_ok w (.bl _) q⟩
    | _ => rw [hd] at q; simp only [elsD] at q; exact q.elim
theorem opn_all : Opn K (rAll K) (allD false) := fun γ α F H μ vs ds Q E w hv q => opn_all0 w hv q
theorem opn_any : Opn K (rAny K) (allD true) := fun γ α F H μ vs ds Q E w hv q => opn_all0 w hv q
end
end DL

/-! The data layer, i: stores, methods of lists and texts, dicts, own objects. -/
namespace DL
open PySem L2

/-! ### a store into a thing -/
def hasK (ks : List Key) (k : Key) : Bool := ks.any fun j => decide (j = k)
def putKs (ks : List Key) (k : Key) : List Key := if hasK ks k then ks else ks ++ [k]
def putXs (ks : List Key) (xs : List D) (k : Key) (d : D) : List D := if hasK ks k then List.zipWith (fun k' x => if k' = k then d else x) ks xs else xs ++ [d]
def storeD (o i d : D) (μ : List Ob) : R Unit := match o with
  | .loc k => match μ[k]? with
    | some (.lst xs) => match i with
      | .int z => match ixN xs.length z with
        | some j => .ok () (μ.set k (.lst (xs.set j d)))
        | none => .bad
      | _ => .bad
    | some (.dct ks xs) => match i.key with
      | some key => if ks.length < 16777216 then .ok () (μ.set k (.dct (putKs ks key) (putXs ks xs key d))) else .bad
      | none => .bad
    | _ => .bad
  | _ => .bad
section
variable {K : PySem.W.Frag} {γ : Hp} {α : List Addr} {F H : Hp} {μ : List Ob} {σ : St} {δ : Sl} {W : WX} {Q : VK} {E : XK}
theorem any_con {kvs : List (Key × V)} {k : Key} : (kvs.any fun kv => decide (kv.1 = k)) = hasK (kvs.map (·.1)) k := by
  unfold hasK
  rw [List.any_map]
  rfl
theorem putK_keys {kvs : List (Key × V)} {k : Key} {v : V} : (putK kvs k v).map (·.1) = putKs (kvs.map (·.1)) k := by
  unfold putK putKs
  rw [any_con]
  split
  · rw [List.map_map]
    apply List.map_congr_left
    intro a _
    show (if a.1 = k then (a.1, v) else a).1 = a.1
    split <;> rfl
  · rw [List.map_append]; rfl
theorem put_zip {k : Key} {v : V} {d : D} (h : Is K α F v d) : ∀ {kvs : List (Key × V)} {xs : List D}, IsL K α F (kvs.map (·.2)) xs →
    IsL K α F ((kvs.map fun kv => if kv.1 = k then (kv.1, v) else kv).map (·.2)) (List.zipWith (fun k' x => if k' = k then d else x) (kvs.map (·.1)) xs)
  | [], _, .nil => .nil
  | (k', u) :: r, _ :: xs, .cons hu l => by
    refine .cons ?_ (put_zip h l)
    show Is K α F (if k' = k then (k', v) else (k', u)).2 (if k' = k then d else _)
    split
    · exact h
    · exact hu
theorem putK_vals {kvs : List (Key × V)} {xs : List D} {k : Key} {v : V} {d : D} (l : IsL K α F (kvs.map (·.2)) xs) (h : Is K α F v d) : IsL K α F ((putK kvs k v).map (·.2)) (putXs (kvs.map (·.1)) xs k d) := by
  unfold putK putXs
  rw [any_con]
  split
  · exact put_zip h l
  · rw [List.map_append]
    exact l.append (.cons h .nil)
def rSetA : TSet := fun o i v H Q => rSetL o i v H Q ∨ rSetD o i v H Q
theorem set_A {X : Cx} (hu : X.A.units + 1 < cLine) : PSet X rSetA := by
  intro pins s σ H o i v ov iv u Q I ro ri rv h
  rcases h with h | h
  · exact set_list pins s σ H o i v ov iv u Q I ro ri rv h
  · exact set_dict hu pins s σ H o i v ov iv u Q I ro ri rv h
theorem store_go {o i d : D} {x y z : V} {Q : Hp → Prop} {g : Unit → List Ob → SO} {D' : Ends} (w : Wd K γ α F H μ) (ho : Is K α F x o) (hi : Is K α F y i) (hd : Is K α F z d) (q : FinS K γ α F ((storeD o i d μ).st δ g) D' W)
    (k : ∀ μ1 H1, Wd K γ α F H1 μ1 → FinS K γ α F (g () μ1) D' W → Q H1) : rSetA x y z H Q := by
  unfold storeD at q
  cases o with
  | loc n =>
    cases ho with
    | loc ha =>
      rename_i a
      simp only at q
      cases hm : μ[n]? with
      | none => rw [hm] at q; exact q.elim
      | some ob =>
        rw [hm] at q
        have hob := w.obj n a ob ha hm
        cases ob with
        | lst xs =>
          cases i with
          | int j =>
            cases hi
            simp only at q
            obtain ⟨vs, h1, h2⟩ := hob
            cases hx : ixN xs.length j with
            | none => rw [hx] at q; exact q.elim
            | some jj =>
              rw [hx] at q
              exact .inl ⟨a, vs, j, jj, rfl, rfl, h1, by rw [h2.length]; exact hx, k _ _ (w.put (ob' := .lst (xs.set jj d)) ha hm (by intro z; cases z) ⟨_, upd_same, h2.set hd jj⟩) q⟩
          | _ => exact q.elim
        | dct ks xs =>
          simp only at q
          obtain ⟨kvs, h1, h2, h3⟩ := hob
          cases hk : i.key with
          | none => rw [hk] at q; exact q.elim
          | some key =>
            rw [hk] at q
            simp only at q
            split at q
            · rename_i hl
              have e := key_kV hi hk
              subst e
              subst h2
              rw [List.length_map] at hl
              exact .inr ⟨a, _, rfl, DPut.k h1 (by rw [sizeLine_eq]; exact hl), k _ _ (w.put (ob' := .dct (putKs _ key) (putXs _ xs key d)) ha hm (by intro z; cases z) ⟨_, upd_same, putK_keys, putK_vals h3 hd⟩) q⟩
            · exact q.elim
        | _ => exact q.elim
  | _ => exact q.elim

/-! ### targets that do something -/
def tGD (K : PySem.W.Frag) (W : WX) (g : D → RS) : TG := fun v σ H Q => ∃ γ α F μ δ d, Wd K γ α F H μ ∧ SlIs K α F σ δ ∧ Is K α F v d ∧ FinS K γ α F (g d δ μ) ⟨Q, fun _ _ => False, fun _ _ => False, fun _ _ => False⟩ W
def tGDs (K : PySem.W.Frag) (W : WX) (g : List D → RS) : TGs := fun vs σ H Q => ∃ γ α F μ δ ds, Wd K γ α F H μ ∧ SlIs K α F σ δ ∧ IsL K α F vs ds ∧ FinS K γ α F (g ds δ μ) ⟨Q, fun _ _ => False, fun _ _ => False, fun _ _ => False⟩ W
abbrev PGD (X : Cx) (W : WX) (tg : Expr) (g : D → RS) : Prop := PG X tg (tGD X.K W g)
abbrev PGDs (X : Cx) (W : WX) (tg : List Expr) (g : List D → RS) : Prop := PGs X tg (tGDs X.K W g)
end
section
variable {X : Cx} {W : WX} {pos p p' : Pos} {o i e : Expr} {es : List Expr} {fo fi f : RE} {g : D → RS} {gs : List D → RS} {fs : RA}
def gNm (i : Nat) : D → RS := fun d δ μ => .nx (δ.set i (some d)) μ
theorem pgd_nm (i : Nat) {x : Str} (hN : X.N.Nodup) (hi : X.N[i]? = some x := by rfl) (hx : Loc X.env.scope x := by first | exact Or.inl rfl | exact Or.inr rfl) (hf : X.fn x = true ∨ X.env.scope.names.lookup x = some .local := by first | exact .inl rfl | exact .inr rfl | assumption) : PGD X W (.Name x pos) (gNm i) :=
  pg_weak (pg_name hN hi hx hf) fun v σ H Q ⟨γ, α, F, μ, δ, d, w, s, hv, q⟩ => q.nx_ w (s.set i hv)
def gSt (fo fi : RE) : D → RS := fun d δ μ => (fo δ μ).st δ fun o μ1 => (fi δ μ1).st δ fun i μ2 => (storeD o i d μ2).st δ fun _ μ3 => .nx δ μ3
theorem pgd_sub (hu : X.A.units + 65 < cLine) (ho : PD X W o fo) (hi : PD X W i fi)
    (ha : ∀ v, assign (.Subscript o i pos) X.env v = (do
      let ov ← holding [v] (eval o X.env)
      let iv ← holding [v, ov] (eval i X.env)
      standAt pos
      holding [v, ov, iv] (setItem ov iv v)
      release [v, ov, iv] []) := by intro _; rfl) : PGD X W (.Subscript o i pos) (gSt fo fi) :=
  pg_weak (pg_sub ho hi (set_A (by omega)) ha) fun v σ H Q ⟨γ, α, F, μ, δ, d, w, s, hv, q⟩ => by
    refine tD_st w s q fun ob μ1 α1 F1 H1 x p1 e1 w1 s1 ho q1 => tD_st w1 s1 q1 fun ix μ2 α2 F2 H2 y p2 e2 w2 s2 hi q2 => ?_
    exact store_go w2 (ho.mono p2 e2) hi (hv.mono (p1.trans p2) (e1.trans e2)) q2 fun μ3 H3 w3 q3 => q3.nx_ w3 s2
def gNil : List D → RS := fun ds δ μ => match ds with
  | [] => .nx δ μ
  | _ => .bad
def gCons (g : D → RS) (gs : List D → RS) : List D → RS := fun ds δ μ => match ds with
  | d :: r => rSeq (g d) (gs r) δ μ
  | [] => .bad
theorem pgds_nil : PGDs X W [] gNil := pgs_weak pgs_nil fun v σ H Q ⟨γ, α, F, μ, δ, ds, w, s, hv, q⟩ => by
  cases hv with
  | nil => exact ⟨rfl, q.nx_ w s⟩
  | cons _ _ => exact q.elim
theorem pgds_cons (h1 : PGD X W e g) (h2 : PGDs X W es gs) (hs : (assignEach (e :: es) X.env).map (·.2) = assign e X.env :: (assignEach es X.env).map (·.2) := by rfl) : PGDs X W (e :: es) (gCons g gs) :=
  pgs_weak (pgs_cons h1 h2 hs) fun v σ H Q ⟨γ, α, F, μ, δ, ds, w, s, hv, q⟩ => by
    cases hv with
    | nil => exact q.elim
    | cons hv l =>
      refine ⟨_, _, rfl, γ, α, F, μ, δ, _, w, s, hv, ?_⟩
      unfold gCons rSeq at q
      simp only at q
      rename_i dd _ _
      cases hg : g dd δ μ with
      | nx δ1 μ1 =>
        rw [hg] at q
        exact fun α' F' H' σ' p e w' s' => ⟨γ, α', F', μ1, δ1, _, w', s', l.mono p e, q.up p e⟩
      | exc x δ1 μ1 => rw [hg] at q; exact q
      | bad => rw [hg] at q; exact q
      | rt d μ1 => rw [hg] at q; exact fun α' F' H' v p e w' hv => q α' F' H' v p e w' hv
      | bk δ1 μ1 => rw [hg] at q; exact fun α' F' H' v p e w' hv => q α' F' H' v p e w' hv
      | ct δ1 μ1 => rw [hg] at q; exact fun α' F' H' v p e w' hv => q α' F' H' v p e w' hv
def gTp (n : Nat) (gs : List D → RS) : D → RS := fun d δ μ => match d with
  | .tup ds => if ds.length = n then gs ds δ μ else .bad
  | _ => .bad
theorem pgd_tup {n k : Nat} (hc : X.calm = true) (h : PGDs X W es gs) (hn : (assignEach es X.env).length = n := by rfl) (hst : (assignEach es X.env).findIdx? (·.1) = none := by rfl) : PGD X W (.Tuple es k pos) (gTp n gs) :=
  pg_weak (pg_tup hc h hn hst) fun v σ H Q ⟨γ, α, F, μ, δ, d, w, s, hv, q⟩ => by
    unfold gTp at q
    cases hv with
    | tup ha l =>
      simp only at q
      split at q
      · rename_i hl
        exact ⟨_, _, rfl, sqt_mono w.sub ha, by rw [l.length]; exact hl, γ, α, F, μ, δ, _, w, s, l, q⟩
      · exact q.elim
    | _ => exact q.elim
def rAsgD (g : D → RS) (f : RE) : RS := fun δ μ => (f δ μ).st δ fun d μ1 => match g d δ μ1 with
  | .nx δ1 μ2 => .nx δ1 μ2
  | .exc x δ1 μ2 => .exc x δ1 μ2
  | _ => .bad
theorem psd_asgD {tg : Expr} (he : PD X W e f) (hg : PGD X W tg g) (hs : swapsWithSole [tg] e pos.line X.env = pure false := by rfl) (hw : swappedStores [tg] e X.env = pure none := by rfl)
    (h1 : (assignEach [tg] X.env).map (·.2) = [assign tg X.env] := by rfl) : PSD X W (.Assign [tg] e pos) (rAsgD g f) :=
  ps_weak (ps_asg he hg hs hw h1) fun D' σ H ⟨γ, α, F, μ, δ, w, s, q⟩ => tD_st w s q fun d μ1 α1 F1 H1 v p1 e1 w1 s1 hv q1 => by
    refine ⟨γ, α1, F1, μ1, δ, d, w1, s1, hv, ?_⟩
    cases hg : g d δ μ1 with
    | nx δ1 μ2 => rw [hg] at q1; exact q1
    | exc x δ1 μ2 => rw [hg] at q1; exact q1
    | _ => rw [hg] at q1; exact q1.elim
end

/-! ### methods of built-in things -/
def Mtn (K : PySem.W.Frag) (T : String) (r : V → List V → Hp → VK → Prop) (c : D → Bool) (m : D → List D → List Ob → R D) : Prop :=
  (∀ α F H v d, Vw K α F H v d → c d = true → tyV K T v H) ∧ ∀ γ α F H μ v d vs ds Q E, Wd K γ α F H μ → Is K α F v d → IsL K α F vs ds → Fin K γ α F (m d ds μ) (okD K Q) E → r v vs H Q
def rMt (c : D → Bool) (m : D → List D → List Ob → R D) (fo : RE) (fs : RA) : RE := fun δ μ => (fo δ μ).bind fun d μ1 => if c (d.view μ1) then (fs δ μ1).bind fun ds μ2 => m d ds μ2 else .bad
section
variable {X : Cx} {W : WX} {o e : Expr} {es : List Expr} {fo : RE} {fs : RA} {apos cpos : Pos} {T : String} {name : Str} {id : String} {r : V → List V → Hp → VK → Prop} {c : D → Bool} {m : D → List D → List Ob → R D}
theorem pd_mt (pa : PlainAttrs T) (slot : Slot T name id) (hty : typeOf (.builtin id) = pure (.type "method_descriptor")) (hm : MtR X id r) (h : Mtn X.K T r c m) (ho : PD X W o fo) (ha : PDA X W (e :: es) fs)
    (hbase : attributeBase o name X.env (eval o X.env) = eval o X.env := by rfl)
    (hfew : ((backTo cpos (starEach (e :: es) X.env)).all (fun x => !x.1) && (backToKw cpos (keywordEach [] X.env)).all (fun x => x.1.isSome)
      && decide ((e :: es).length + ([] : List Keyword).length + (if ([] : List Keyword).isEmpty then 0 else 1) < 30)) = true := by rfl)
    (hline : (apos.endLine == cpos.line) = true := by rfl) (hs : starEach (e :: es) X.env = (false, eval e X.env) :: starEach es X.env := by rfl) (hplain : (backTo cpos (starEach es X.env)).any (·.1) = false := by rfl) :
    PD X W (.Call (.Attribute o name apos) (e :: es) [] cpos) (rMt c m fo fs) :=
  pe_weak (pe_bm pa slot hty hm ho ha hbase hfew hline hs hplain) fun σ H Q ⟨γ, α, F, μ, δ, w, s, q⟩ => tD_go w s q fun d μ1 α1 F1 H1 v p1 e1 w1 s1 hv q1 => by
    split at q1
    · rename_i hc
      refine ⟨h.1 _ _ _ _ _ (w1.view hv) hc, ?_⟩
      exact tDA_go w1 s1 q1 fun ds μ2 α2 F2 H2 vs p2 e2 w2 s2 hvs q2 => h.2 γ α2 F2 H2 μ2 v d vs ds Q _ w2 (hv.mono p2 e2) hvs q2
    · exact q1.elim
end
section
variable {K : PySem.W.Frag} {γ : Hp} {α : List Addr} {F H : Hp} {μ : List Ob} {σ : St} {δ : Sl} {W : WX} {Q : VK} {E : XK}
def isLst : D → Bool
  | .lst _ => true
  | _ => false
def isStr : D → Bool
  | .str _ => true
  | _ => false
theorem ty_lst {v : V} {d : D} (h : Vw K α F H v d) (c : isLst d = true) : tyV K "list" v H := by
  cases d with
  | lst xs => obtain ⟨a, us, rfl, ha, l⟩ := h; exact .inl ⟨rfl, us, .inl (.inl ha)⟩
  | _ => cases c
theorem ty_str {v : V} {d : D} (h : Vw K α F H v d) (c : isStr d = true) : tyV K "str" v H := by
  cases d with
  | str xs => cases Is.toStr (K := K) h; exact rfl
  | _ => cases c
/-- x.append(d), x.extend(ds) -/
def apD : D → List D → List Ob → R D := fun o ds μ => match o, ds with
  | .loc k, [d] => match μ[k]? with
    | some (.lst xs) => if xs.length < 16777216 then .ok .non (μ.set k (.lst (xs ++ [d]))) else .bad
    | _ => .bad
  | _, _ => .bad
theorem mtn_append : Mtn K "list" rAppend isLst apD := ⟨fun α F H v d => ty_lst, fun γ α F H μ v d vs ds Q E w hv hds q => by
  unfold apD at q
  split at q
  · rename_i k d
    cases hv with
    | loc ha =>
      rename_i a
      obtain ⟨u, rfl, hu⟩ := hds.one
      cases hm : μ[k]? with
      | none => rw [hm] at q; exact q.elim
      | some ob =>
        rw [hm] at q
        have hob := w.obj k a ob ha hm
        cases ob with
        | lst xs =>
          simp only at q
          obtain ⟨us, h1, h2⟩ := hob
          split at q
          · rename_i hl
            exact ⟨a, us, u, rfl, rfl, h1, by rw [h2.length, sizeLine_eq]; exact hl, fin_ok (w.put (ob' := .lst (xs ++ [d])) ha hm (by intro z; cases z) ⟨_, upd_same, h2.append (.cons hu .nil)⟩) .non q⟩
          · exact q.elim
        | _ => exact q.elim
  · exact q.elim⟩
def exD : D → List D → List Ob → R D := fun o ds μ => match o, ds with
  | .loc k, [d] => match μ[k]?, d.view μ with
    | some (.lst xs), .lst ys => if xs.length + ys.length ≤ 16777216 then .ok .non (μ.set k (.lst (xs ++ ys))) else .bad
    | _, _ => .bad
  | _, _ => .bad
theorem mtn_extend : Mtn K "list" rExtend isLst exD := ⟨fun α F H v d => ty_lst, fun γ α F H μ v d vs ds Q E w hv hds q => by
  unfold exD at q
  split at q
  · rename_i k d
    cases hv with
    | loc ha =>
      rename_i a
      obtain ⟨u, rfl, hu⟩ := hds.one
      cases hm : μ[k]? with
      | none => rw [hm] at q; exact q.elim
      | some ob =>
        rw [hm] at q
        have hob := w.obj k a ob ha hm
        cases ob with
        | lst xs =>
          have vw := w.view hu
          cases hd : d.view μ with
          | lst ys =>
            rw [hd] at q vw
            simp only at q
            obtain ⟨us, h1, h2⟩ := hob
            obtain ⟨b, zs, rfl, hb, l⟩ := vw
            split at q
            · rename_i hl
              exact ⟨a, b, us, zs, rfl, rfl, h1, hb, by rw [h2.length, l.length, sizeLine_eq]; exact hl, fin_ok (w.put (ob' := .lst (xs ++ ys)) ha hm (by intro z; cases z) ⟨_, upd_same, h2.append l⟩) .non q⟩
            · exact q.elim
          | _ => rw [hd] at q; exact q.elim
        | _ => exact q.elim
  · exact q.elim⟩
def strsD : List D → Option (List Str)
  | [] => some []
  | .str b :: r => (strsD r).map (b :: ·)
  | _ => none
theorem strs_is : ∀ {xs : List D} {bs : List Str} {vs : List V}, strsD xs = some bs → IsL K α F vs xs → vs = bs.map V.str
  | [], bs, vs, e, h => by cases e; cases h; rfl
  | d :: r, bs, vs, e, h => by
    cases d with
    | str b =>
      rw [strsD] at e
      cases hr : strsD r with
      | none => rw [hr] at e; cases e
      | some cs =>
        rw [hr] at e
        cases e
        cases h with
        | cons h t => cases h; rw [strs_is hr t]; rfl
    | _ => cases e
theorem is_strs : ∀ ys : List Str, IsL K α F (ys.map V.str) (ys.map D.str)
  | [] => .nil
  | y :: ys => .cons (.str y) (is_strs ys)
/-- a.join(xs), a.split(b) -/
def joinD : D → List D → List Ob → R D := fun o ds μ => match o, ds with
  | .str a, [d] => match d.view μ with
    | .lst xs => match strsD xs with
      | some ys => if (ys.map (·.length)).sum + ys.length * a.length ≤ 16777216 then .ok (.str (Txt.join a ys)) μ else .bad
      | none => .bad
    | _ => .bad
  | _, _ => .bad
def rJoin (K : PySem.W.Frag) : V → List V → Hp → VK → Prop := fun x xs H Q => ∃ a p, ∃ ys : List Str, x = .str a ∧ xs = [.ref p] ∧ (SqL K H p (ys.map V.str) ∨ SqT K H p (ys.map V.str)) ∧ (ys.map (·.length)).sum + ys.length * a.length ≤ 16777216 ∧ Q (.str (Txt.join a ys)) H
theorem mtn_join : Mtn K "str" (rJoin K) isStr joinD := ⟨fun α F H v d => ty_str, fun γ α F H μ v d vs ds Q E w hv hds q => by
  unfold joinD at q
  split at q
  · rename_i a d
    cases hv
    obtain ⟨u, rfl, hu⟩ := hds.one
    have vw := w.view hu
    cases hd : d.view μ with
    | lst xs =>
      rw [hd] at q vw
      simp only at q
      obtain ⟨b, zs, rfl, hb, l⟩ := vw
      cases hs : strsD xs with
      | none => rw [hs] at q; exact q.elim
      | some ys =>
        rw [hs] at q
        simp only at q
        have e := strs_is hs l
        subst e
        split at q
        · exact ⟨a, b, ys, rfl, rfl, .inl (.inl (.inl hb)), by assumption, fin_ok w (.str _) q⟩
        · exact q.elim
    | _ => rw [hd] at q; exact q.elim
  · exact q.elim⟩
def splitD : D → List D → List Ob → R D := fun o ds μ => match o, ds with
  | .str a, [.str b] => if (b.length == 0) = false ∧ a.length + 2 ≤ 16777216 then .ok (.lst ((Txt.split a b).map D.str)) μ else .bad
  | _, _ => .bad
def rSplitS : V → List V → Hp → VK → Prop := fun x xs H Q => ∃ a b, x = .str a ∧ xs = [.str b] ∧ (b.length == 0) = false ∧ a.length + 2 ≤ sizeLine ∧ rNewStrs (Txt.split a b) H Q
theorem mtn_split : Mtn K "str" rSplitS isStr splitD := ⟨fun α F H v d => ty_str, fun γ α F H μ v d vs ds Q E w hv hds q => by
  unfold splitD at q
  split at q
  · rename_i a b
    cases hv
    obtain ⟨u, rfl, hu⟩ := hds.one
    cases hu
    split at q
    · rename_i h
      refine ⟨a, b, rfl, rfl, h.1, by rw [sizeLine_eq]; exact h.2, fun p hp => ?_⟩
      exact fin_lay w hp (.lst upd_same (is_strs _)) q
    · exact q.elim
  · exact q.elim⟩
end
section
variable {X : Cx} {W : WX} {o e : Expr} {fo : RE} {fs : RA} {apos cpos : Pos}
theorem pd_append (ho : PD X W o fo) (ha : PDA X W [e] fs) (hbase : attributeBase o "append" X.env (eval o X.env) = eval o X.env := by rfl) (hline : (apos.endLine == cpos.line) = true := by rfl)
    (hs : starEach [e] X.env = [(false, eval e X.env)] := by rfl) : PD X W (.Call (.Attribute o "append" apos) [e] [] cpos) (rMt isLst apD fo fs) :=
  pd_mt F.plainAttrs_list F.slot_list_append F.type_list_append mt_append mtn_append ho ha hbase (by rw [hs]; rfl) hline (by rw [hs]; rfl) rfl
theorem pd_extend (ho : PD X W o fo) (ha : PDA X W [e] fs) (hbase : attributeBase o "extend" X.env (eval o X.env) = eval o X.env := by rfl) (hline : (apos.endLine == cpos.line) = true := by rfl)
    (hs : starEach [e] X.env = [(false, eval e X.env)] := by rfl) : PD X W (.Call (.Attribute o "extend" apos) [e] [] cpos) (rMt isLst exD fo fs) :=
  pd_mt F.plainAttrs_list F.slot_list_extend F.type_list_extend mt_extend mtn_extend ho ha hbase (by rw [hs]; rfl) hline (by rw [hs]; rfl) rfl
theorem pd_join (ho : PD X W o fo) (ha : PDA X W [e] fs) (hbase : attributeBase o "join" X.env (eval o X.env) = eval o X.env := by rfl) (hline : (apos.endLine == cpos.line) = true := by rfl)
    (hs : starEach [e] X.env = [(false, eval e X.env)] := by rfl) : PD X W (.Call (.Attribute o "join" apos) [e] [] cpos) (rMt isStr joinD fo fs) :=
  pd_mt F.plainAttrs_str F.slot_str_join F.type_str_join mt_join mtn_join ho ha hbase (by rw [hs]; rfl) hline (by rw [hs]; rfl) rfl
theorem pd_split (ho : PD X W o fo) (ha : PDA X W [e] fs) (hbase : attributeBase o "split" X.env (eval o X.env) = eval o X.env := by rfl) (hline : (apos.endLine == cpos.line) = true := by rfl)
    (hs : starEach [e] X.env = [(false, eval e X.env)] := by rfl) : PD X W (.Call (.Attribute o "split" apos) [e] [] cpos) (rMt isStr splitD fo fs) :=
  pd_mt F.plainAttrs_str F.slot_str_split F.type_str_split mt_split mtn_split ho ha hbase (by rw [hs]; rfl) hline (by rw [hs]; rfl) rfl
end

/-! ### dicts: {}, a dict that stands still from here; stars in displays -/
section
variable {X : Cx} {W : WX} {e : Expr} {es : List Expr} {f : RE} {fs : RA} {pos p : Pos}
def rDnew : RE := fun _ μ => .ok (.loc μ.length) (μ ++ [.dct [] []])
theorem pd_dnew : PD X W (.Dict [] [] pos) rDnew := pe_weak pe_dnewK fun σ H Q ⟨γ, α, F, μ, δ, w, s, q⟩ l hl =>
  q (α ++ [l]) F _ (List.prefix_append _ _) (Same.refl F) (w.new hl ⟨[], upd_same, rfl, .nil⟩) _ (.loc (w.newAt l))
/-- the dict e gives is not changed any more -/
def rFrz (f : RE) : RE := fun δ μ => (f δ μ).bind fun d μ1 => match d with
  | .loc k => match μ1[k]? with
    | some (.dct ks xs) => .ok (.dct ks xs) (μ1.set k .dead)
    | _ => .bad
  | _ => .bad
theorem pd_frz (h : PD X W e f) : PD X W e (rFrz f) := pe_weak (pe_frz h) fun σ H Q ⟨γ, α, F, μ, δ, w, s, q⟩ => tD_go w s q fun d μ1 α1 F1 H1 v p1 e1 w1 s1 hv q1 => by
  cases d with
  | loc k =>
    cases hv with
    | loc ha =>
      rename_i a
      simp only at q1
      cases hm : μ1[k]? with
      | none => rw [hm] at q1; exact q1.elim
      | some ob =>
        rw [hm] at q1
        have hob := w1.obj k a ob ha hm
        cases ob with
        | dct ks xs =>
          obtain ⟨kvs, h1, h2, h3⟩ := hob
          refine ⟨a, kvs, rfl, h1, fun o => ?_⟩
          have hn : F1 a = none := w1.apart k a _ ha hm (by intro z; cases z)
          exact q1 α1 _ _ (List.prefix_refl _) (same_new hn) (w1.frz ha hm (by intro z; cases z)) _ (.dct ⟨o, upd_same⟩ h2 (h3.mono (List.prefix_refl _) (same_new hn)))
        | _ => exact q1.elim
  | _ => exact q1.elim
/-- *xs among a display's parts -/
def rStar (f : RE) (fs : RA) : RA := fun δ μ => (f δ μ).bind fun d μ1 => match d.view μ1 with
  | .lst xs => (fs δ μ1).bind fun ds μ2 => .ok (xs ++ ds) μ2
  | .tup xs => (fs δ μ1).bind fun ds μ2 => .ok (xs ++ ds) μ2
  | _ => .bad
theorem pda_star (he : PD X W e f) (hr : PDA X W es fs) (hs : starEach (.Starred e p :: es) X.env = (true, eval e X.env) :: starEach es X.env := by rfl) : PDA X W (.Starred e p :: es) (rStar f fs) :=
  pa_weak (StX.pa_star he hr hs) fun σ H Q ⟨γ, α, F, μ, δ, w, s, q⟩ => tD_go w s q fun d μ1 α1 F1 H1 v p1 e1 w1 s1 hv q1 => by
    have vw := w1.view hv
    cases hd : d.view μ1 with
    | lst xs =>
      rw [hd] at q1 vw
      obtain ⟨a, us, rfl, ha, l⟩ := vw
      exact ⟨a, us, rfl, .inr (.inl (.inl ha)), tDA_go w1 s1 q1 fun ds μ2 α2 F2 H2 vs p2 e2 w2 s2 hvs q2 => q2 α2 F2 H2 (List.prefix_refl _) (Same.refl F2) w2 _ ((l.mono p2 e2).append hvs)⟩
    | tup xs =>
      rw [hd] at q1 vw
      obtain ⟨a, us, rfl, ha, l⟩ := vw
      exact ⟨a, us, rfl, .inl ha, tDA_go w1 s1 q1 fun ds μ2 α2 F2 H2 vs p2 e2 w2 s2 hvs q2 => q2 α2 F2 H2 (List.prefix_refl _) (Same.refl F2) w2 _ ((l.mono p2 e2).append hvs)⟩
    | _ => rw [hd] at q1; exact q1.elim
end
end DL

/-! The data layer, j: attributes, own objects made and compared, dict comprehensions. -/
namespace DL
open PySem L2

/-! ### attributes -/
/-- an attribute of an own class's objects -/
structure At (K : PySem.W.Frag) (C : Addr) (f : Str) : Prop where
  cl : Cls K C
  no : NoAttr K C f
def fldD (C : Addr) (f : Str) (d : D) (μ : List Ob) : R D := match d.view μ with
  | .ins C' fs xs => if C' = C then (match lookD fs xs f with
    | some x => .ok x μ
    | none => .bad) else .bad
  | _ => .bad
def rFld (C : Addr) (f : Str) (fe : RE) : RE := fun δ μ => (fe δ μ).bind fun d μ1 => fldD C f d μ1
theorem lookup_val {f : Str} : ∀ {fv : List (Str × V)}, fv.lookup f = valV fv f
  | [] => rfl
  | (g, v) :: r => by
    rw [List.lookup_cons]
    by_cases h : g = f
    · subst h
      rw [valV_pos rfl]
      simp
    · rw [valV_neg h, ← lookup_val]
      have : (f == g) = false := beq_eq_false_iff_ne.mpr (Ne.symm h)
      rw [this]
section
variable {K : PySem.W.Frag} {γ : Hp} {α : List Addr} {F H : Hp} {μ : List Ob} {σ : St} {δ : Sl} {W : WX} {Q : VK} {E : XK}
theorem look_val' {κ : Type} [DecidableEq κ] {k : κ} {kvs : List (κ × V)} {xs : List D} {d : D} (l : IsL K α F (kvs.map (·.2)) xs) (e : lookD (kvs.map (·.1)) xs k = some d) : ∃ v, valV kvs k = some v ∧ Is K α F v d := (look_val k l).1 d e
theorem is_fld {a : Addr} {C : Addr} {dx : Addr} {fv : List (Str × V)} {f : Str} {x : D} {xs : List D} (l : IsL K α F (fv.map (·.2)) xs) (e : lookD (fv.map (·.1)) xs f = some x) : ∃ v, fv.lookup f = some v ∧ Is K α F v x := by
  obtain ⟨v, h1, h2⟩ := look_val' l e
  exact ⟨v, by rw [lookup_val]; exact h1, h2⟩
end
section
variable {X : Cx} {W : WX} {o e value : Expr} {fe fo fv : RE} {f : Str} {pos pos' : Pos} {C : Addr}
theorem pd_fld (T : At X.K C f) (ha : PD X W e fe) (hb : attributeBase e f X.env (eval e X.env) = eval e X.env := by rfl) : PD X W (.Attribute e f pos) (rFld C f fe) :=
  pe_weak (pe_fld ha hb) fun σ H Q ⟨γ, α, F, μ, δ, w, s, q⟩ => tD_go w s q fun d μ1 α1 F1 H1 v p1 e1 w1 s1 hv q1 => by
    unfold fldD at q1
    have vw := w1.view hv
    cases hd : d.view μ1 with
    | ins C' fs xs =>
      rw [hd] at q1 vw
      simp only at q1
      split at q1
      · rename_i hC
        subst hC
        obtain ⟨a, dx, fv, rfl, h1, rfl, l⟩ := vw
        cases hx : lookD (fv.map (·.1)) xs f with
        | none => rw [hx] at q1; exact q1.elim
        | some x =>
          rw [hx] at q1
          obtain ⟨u, h3, h4⟩ := is_fld (a := a) (C := C') (dx := dx) l hx
          exact ⟨a, C', dx, fv, u, rfl, h1, T.cl, T.no, h3, q1 α1 F1 H1 (List.prefix_refl _) (Same.refl F1) w1 u h4⟩
      · exact q1.elim
    | _ => rw [hd] at q1; exact q1.elim
/-- o.f = e -/
def putFs (fs : List Str) (f : Str) : List Str := if fs.any (fun g => decide (g = f)) then fs else fs ++ [f]
def putFx (fs : List Str) (xs : List D) (f : Str) (d : D) : List D := if fs.any (fun g => decide (g = f)) then List.zipWith (fun g x => if g = f then d else x) fs xs else xs ++ [d]
def stFld (C : Addr) (f : Str) (o d : D) (μ : List Ob) : R Unit := match o with
  | .loc k => match μ[k]? with
    | some (.ins C' fs xs) => if C' = C then (if fs.length < 1000 then (if fs.Nodup then .ok () (μ.set k (.ins C' (putFs fs f) (putFx fs xs f d))) else .bad) else .bad) else .bad
    | _ => .bad
  | _ => .bad
def rSetF (C : Addr) (f : Str) (fo fv : RE) : RS := fun δ μ => (fv δ μ).st δ fun d μ1 => (fo δ μ1).st δ fun o μ2 => (stFld C f o d μ2).st δ fun _ μ3 => .nx δ μ3
theorem putF_keys {f : Str} {v : V} : ∀ {fs : List (Str × V)}, (putF f v fs).map (·.1) = putFs (fs.map (·.1)) f
  | [] => rfl
  | (g, x) :: r => by
    unfold putF putFs
    rw [List.map_cons, List.any_cons]
    by_cases h : g = f
    · rw [if_pos h]
      rw [decide_eq_true h, Bool.true_or, if_pos rfl]
      rfl
    · rw [if_neg h]
      rw [decide_eq_false h, Bool.false_or, List.map_cons, putF_keys]
      unfold putFs
      split <;> rfl
theorem zip_same {f : Str} {d : D} : ∀ {fs : List Str} {xs : List D}, f ∉ fs → fs.length = xs.length → List.zipWith (fun g x => if g = f then d else x) fs xs = xs
  | [], [], _, _ => rfl
  | g :: fs, x :: xs, h, e => by
    have hg : ¬ g = f := fun q => h (by rw [← q]; exact List.mem_cons_self ..)
    rw [List.zipWith_cons_cons, if_neg hg, zip_same (fun q => h (List.mem_cons_of_mem _ q)) (Nat.succ.inj e)]
theorem putF_vals {K : PySem.W.Frag} {α : List Addr} {F : Hp} {f : Str} {v : V} {d : D} (h : Is K α F v d) : ∀ {fs : List (Str × V)} {xs : List D}, (fs.map (·.1)).Nodup → IsL K α F (fs.map (·.2)) xs → IsL K α F ((putF f v fs).map (·.2)) (putFx (fs.map (·.1)) xs f d)
  | [], _, _, .nil => .cons h .nil
  | (g, u) :: r, x :: xs, nd, .cons hu l => by
    unfold putF putFx
    rw [List.map_cons, List.any_cons]
    have nd' := List.nodup_cons.mp nd
    have hl := l.length
    rw [List.length_map] at hl
    by_cases e : g = f
    · rw [if_pos e]
      rw [decide_eq_true e, Bool.true_or, if_pos rfl]
      rw [List.zipWith_cons_cons, if_pos e]
      refine .cons h ?_
      rw [zip_same (by rw [← e]; exact nd'.1) (by rw [List.length_map]; exact hl)]
      exact l
    · rw [if_neg e]
      rw [decide_eq_false e, Bool.false_or]
      have ih := putF_vals (f := f) (v := v) (d := d) h nd'.2 l
      unfold putFx at ih
      split
      · rename_i h2
        rw [if_pos h2] at ih
        rw [List.zipWith_cons_cons, if_neg e]
        exact .cons hu ih
      · rename_i h2
        rw [if_neg h2] at ih
        exact .cons hu ih
theorem psd_fld (T : At X.K C f) (ha : PD X W o fo) (hv : PD X W value fv) (hs : swapsWith value (some (.Attribute o f pos')) pos.line X.env = pure false := by rfl) : PSD X W (.Assign [.Attribute o f pos'] value pos) (rSetF C f fo fv) :=
  ps_weak (ps_fld ha hv hs) fun D' σ H ⟨γ, α, F, μ, δ, w, s, q⟩ => tD_st w s q fun d μ1 α1 F1 H1 v p1 e1 w1 s1 hv q1 => tD_st w1 s1 q1 fun o μ2 α2 F2 H2 x p2 e2 w2 s2 ho q2 => by
    unfold stFld at q2
    cases o with
    | loc k =>
      cases ho with
      | loc ha =>
        rename_i a
        simp only at q2
        cases hm : μ2[k]? with
        | none => rw [hm] at q2; exact q2.elim
        | some ob =>
          rw [hm] at q2
          have hob := w2.obj k a ob ha hm
          cases ob with
          | ins C' fs xs =>
            simp only at q2
            split at q2
            · rename_i hC
              subst hC
              split at q2
              · rename_i hl
                split at q2
                · rename_i nd
                  obtain ⟨dx, gv, h1, rfl, l⟩ := hob
                  rw [List.length_map] at hl
                  exact ⟨a, C', dx, gv, rfl, h1, T.cl, T.no, hl, q2.nx_ (w2.put (ob' := .ins C' (putFs _ f) (putFx _ xs f d)) ha hm (by intro z; cases z) ⟨dx, _, upd_same, putF_keys, putF_vals (hv.mono p2 e2) nd l⟩) s2⟩
                · exact q2.elim
              · exact q2.elim
            · exact q2.elim
          | _ => exact q2.elim
    | _ => exact q2.elim
end

/-! ### C(..): an object is made -/
/-- .. and stands still from then on -/
def rMake (C : Addr) (n : Nat) (ct : Ct) (fs : RA) : RE := fun δ μ => (fs δ μ).bind fun ds μ1 => if ds.length = n then (match ct (.loc μ1.length :: ds) (μ1 ++ [.ins C [] []]) with
  | .ok .non μ2 => (match μ2[μ1.length]? with
    | some (.ins C' fs xs) => .ok (.ins C' fs xs) (μ2.set μ1.length .dead)
    | _ => .bad)
  | _ => .bad)
  else .bad
/-- a class of the text, its __init__ by contract -/
structure Cml (P : Program) (w : World) (K : PySem.W.Frag) (mg : Str → Option Value) (base : Heap) (k : Nat) (x : Str) (C : Addr) (n : Nat) (ct : Ct) : Prop where
  ex : ∃ (f : Addr) (fd : FuncData) (ps : List Str), ps.length = n + 1 ∧ Mk K C f ∧ FnOk P w K mg base (L2.CX P w) k f fd ps (spD K (n + 1) ct) ∧ mg x = some (.ref C) ∧ Binds K fd ps []
section
variable {X : Cx} {W : WX} {k j n : Nat} {x : Str} {ct : Ct} {C : Addr}
theorem Wd.mk2 {K : PySem.W.Frag} {γ : Hp} {α : List Addr} {F H : Hp} {μ : List Ob} {a dx : Addr} (w : Wd K γ α F H μ) (ha : H a = none) (hd : H dx = none) (ne : dx ≠ a) : Wd K γ (α ++ [a]) F (upd (upd H dx (.own a)) a (.ins C dx [])) (μ ++ [.ins C [] []]) := by
  have w1 := w.lay0 (o := .own a) hd
  refine w1.new (by rw [upd_ne ne.symm]; exact ha) ⟨dx, [], upd_same, rfl, .nil⟩
theorem pd_make {e : Expr} {es : List Expr} {fs : RA} {p pos : Pos} (c : Cml X.prog X.w X.K X.mg X.base k x C n ct) (g : Good X W j) (ha : PDA X W (e :: es) fs) (hk : k + 1 ≤ j := by decide) (hg : Gl X x := by rfl) (hdb : (x == ("__debug__" : Str)) = false := by decide)
    (he : starEach (e :: es) X.env = (false, eval e X.env) :: starEach es X.env := by rfl) (hpl : (backTo pos (starEach es X.env)).any (·.1) = false := by rfl)
    : PD X W (.Call (.Name x p) (e :: es) [] pos) (rMake C n ct fs) := by
  obtain ⟨f, fd, ps, hnn, M, F, hm, hb⟩ := c.ex
  refine pe_weak (pe_make M F (g.hr.mono hk) hg hm hb .nil passL ha hdb he hpl) fun σ H Q ⟨γ, α, F, μ, δ, w, s, q⟩ => ?_
  refine tDA_go w s q fun ds μ1 α1 F1 H1 vs p1 e1 w1 s1 hv q1 => ?_
  intro a dx h1 h2 ne
  by_cases hl : ds.length = n
  · rw [if_pos hl] at q1
    have w2 := w1.mk2 (C := C) h1 h2 ne
    have px : α1 <+: α1 ++ [a] := List.prefix_append _ _
    refine ⟨by simp [hv.length, hl], γ, α1 ++ [a], F1, _, _, w2, .cons (.loc (w1.newAt a)) ((by rw [List.append_nil]; exact hv.mono px (Same.refl F1))), ?_⟩
    cases hc : ct (.loc μ1.length :: ds) (μ1 ++ [.ins C [] []]) with
    | bad => rw [hc] at q1; exact q1.elim
    | exc x μ2 => rw [hc] at q1; exact q1.elim
    | ok d μ2 =>
      rw [hc] at q1
      intro α2 F2 H2 p2 e2 w3 v hvd
      cases d with
      | non =>
        cases hvd
        refine ⟨rfl, ?_⟩
        simp only at q1
        cases hm2 : μ2[μ1.length]? with
        | none => rw [hm2] at q1; exact q1.elim
        | some ob =>
          rw [hm2] at q1
          have hat : α2[μ1.length]? = some a := pre_get p2 (w1.newAt a)
          have hob := w3.obj _ a ob hat hm2
          cases ob with
          | ins C' fs xs =>
            simp only at q1
            obtain ⟨dx', fv, g1, g2, g3⟩ := hob
            have fa : F2 a = none := w3.apart _ a _ hat hm2 (by intro z; cases z)
            have w4 := w3.frz (o := .ins C' dx' fv) hat hm2 (by intro z; cases z)
            rw [upd_id g1] at w4
            exact q1 α2 _ H2 (px.trans p2) (e2.trans (same_new fa)) w4 _ (.ins upd_same g2 (g3.mono (List.prefix_refl _) (same_new fa)))
          | _ => exact q1.elim
      | _ => exact q1.elim
  · rw [if_neg hl] at q1; exact q1.elim
end

/-! ### == by the text's own __eq__ -/
def rOwn (C : Addr) (sp : Sp) (E : XK) : R2 := fun x y H Q => ∃ a b dx dy fs gs, x = .ref a ∧ y = .ref b ∧ H a = some (.ins C dx fs) ∧ H b = some (.ins C dy gs) ∧ sp [.ref a, .ref b] H (fun v H' => (∃ k, v = .bl k) ∧ Q v H') E
theorem op_own {X : Cx} {CX : CXT} {C f : Addr} {fd : FuncData} {ps : List Str} {sp : Sp} {E : XK} {n : Nat} (F : FnOk X.prog X.w X.K X.mg X.base CX n f fd ps sp) (hr : Room n X.A)
    (hs : PySem.W.findIn X.K (.ref C) "__eq__" = some (some (.ref f))) (hf : PySem.W.isFn X.K (.ref f) = true) (hb : Binds X.K fd ps []) (hx : Passes CX X E) : OpR X (compareOp .Eq) (rOwn C sp E) := by
  intro pins s σ H x y u v Q I rx ry d
  obtain ⟨a, b, dx, dy, fs, gs, e1, e2, ha, hb', hsp⟩ := d
  subst e1
  subst e2
  cases rx
  cases ry
  obtain ⟨mA, J, _⟩ := ins_get I.hok ha
  obtain ⟨mB, J', _⟩ := ins_get I.hok hb'
  obtain ⟨od, J, _⟩ := J.look
  obtain ⟨od', J', _⟩ := J'.look
  obtain ⟨m, hF⟩ := I.fr
  show wpAny (model X.prog X.w) X.A (richCompare .Eq (.ref a) (.ref b)) (EP X pins σ Q) X.xe s
  refine PySem.W.cmp_K (op := .Eq) (tb := .ref C) hr.units0 hF I.ok.mod.kin J J'.type (by simp [PySem.W.notFirst]) hs hf ?_
  have hl := F.len _ _ _ _ hsp
  have r2 : Vals [V.ref a, V.ref b] [Value.ref a, Value.ref b] := .cons rfl (.cons rfl .nil)
  refine wpAny_call (codeAny_mono (F.run X.A X.stack s H ⟨[.ref a, .ref b], []⟩ [.ref a, .ref b] [.ref a, .ref b] _ E hr I.env0 (by
    have := hb s [.ref a, .ref b] I.kIn (by simpa using hl)
    simpa using this) r2 hsp) fun r s' hq => ?_)
  cases r with
  | error e => exact hx pins σ H s e s' I hq
  | ok fl =>
    cases fl with
    | ret w =>
      obtain ⟨z, H', I', rz, ⟨kk, ez⟩, ex⟩ := I.after hq
      subst ez
      cases rz
      exact ⟨.bl kk, H', I', rfl, ex⟩
    | next => exact False.elim hq
    | brk => exact False.elim hq
    | cont => exact False.elim hq
/-- the class C has an own ==, kept by contract -/
structure Ceq (P : Program) (w : World) (K : PySem.W.Frag) (mg : Str → Option Value) (base : Heap) (k : Nat) (C : Addr) (ct : Ct) : Prop where
  ex : ∃ (f : Addr) (fd : FuncData) (ps : List Str), ps.length = 2 ∧ FnOk P w K mg base (L2.CX P w) k f fd ps (spD K 2 ct) ∧ PySem.W.findIn K (.ref C) "__eq__" = some (some (.ref f)) ∧ PySem.W.isFn K (.ref f) = true ∧ Binds K fd ps []
def ownD (C : Addr) (ct : Ct) (d e : D) (μ : List Ob) : R D := match d.view μ, e.view μ with
  | .ins C1 _ _, .ins C2 _ _ => if C1 = C ∧ C2 = C then (match ct [d, e] μ with
    | .ok (.bl k) μ1 => .ok (.bl k) μ1
    | _ => .bad) else .bad
  | _, _ => .bad
theorem op2_own {K : PySem.W.Frag} {C : Addr} {ct : Ct} : Op2 K (rOwn C (spD K 2 ct) E0) (ownD C ct) := fun γ α F H μ x y d e Q E w hx hy q => by
  unfold ownD at q
  have v1 := w.view hx
  have v2 := w.view hy
  cases hd : d.view μ with
  | ins C1 fs xs =>
    rw [hd] at q v1
    cases he : e.view μ with
    | ins C2 gs ys =>
      rw [he] at q v2
      simp only at q
      split at q
      · rename_i hC
        obtain ⟨rfl, rfl⟩ := hC
        obtain ⟨a, dx, fv, rfl, h1, _, _⟩ := v1
        obtain ⟨b, dy, gv, rfl, h3, _, _⟩ := v2
        refine ⟨a, b, dx, dy, fv, gv, rfl, rfl, h1, h3, rfl, γ, α, F, μ, [d, e], w, .cons hx (.cons hy .nil), ?_⟩
        cases hc : ct [d, e] μ with
        | bad => rw [hc] at q; exact q.elim
        | exc x μ1 => rw [hc] at q; exact q.elim
        | ok z μ1 =>
          rw [hc] at q
          cases z with
          | bl k => exact fun α' F' H' p e' w' v hv => ⟨⟨k, by cases hv; rfl⟩, q α' F' H' p e' w' v hv⟩
          | _ => exact q.elim
      · exact q.elim
    | _ => rw [he] at q; exact q.elim
  | _ => rw [hd] at q; exact q.elim
section
variable {X : Cx} {W : WX} {k j : Nat} {C : Addr} {ct : Ct} {a b : Expr} {fa fb : RE} {pos : Pos}
theorem pdt_own (c : Ceq X.prog X.w X.K X.mg X.base k C ct) (g : Good X W j) (ha : PD X W a fa) (hb : PD X W b fb) (hk : k ≤ j := by decide) (hm : behindInMarks .Eq b = false := by rfl) : PDT X W (.Compare a [.Eq] [b] pos) (rT (rBin (ownD C ct) fa fb)) := by
  obtain ⟨f, fd, ps, hn, F, hs, hf, hbd⟩ := c.ex
  exact pdt_cmp (op_own F (g.hr.mono hk) hs hf hbd passL) op2_own hm ha hb
theorem pd_own (c : Ceq X.prog X.w X.K X.mg X.base k C ct) (g : Good X W j) (ha : PD X W a fa) (hb : PD X W b fb) (hk : k ≤ j := by decide) (hm : behindInMarks .Eq b = false := by rfl) : PD X W (.Compare a [.Eq] [b] pos) (rBin (ownD C ct) fa fb) := by
  obtain ⟨f, fd, ps, hn, F, hs, hf, hbd⟩ := c.ex
  exact pd_cmp (op_own F (g.hr.mono hk) hs hf hbd passL) op2_own hm ha hb
end
end DL

/-! The data layer, k: a module's dict; dict comprehensions. -/
namespace DL
open PySem L2

/-! ### a dict that a module's top has written -/
def EntIs (e : DictEntry) (p : Key × V) : Prop := (∃ x t, e.key = .str x t ∧ p.1 = .inr x) ∧ RelV p.2 e.val
structure KDat (K : PySem.W.Frag) (w : World) (a : Addr) (kvs : List (Key × V)) : Prop where
  ex : ∃ (es : Array DictEntry) (n : Nat), K.lookup a = some ⟨.type "dict", none, .dict es n, #[]⟩ ∧ PySem.W.KeysLit w.params es.toList ∧ Paired EntIs es.toList kvs
  low : (a == sysModules) = false
  nd : (kvs.map (·.1)).Nodup
  sz : kvs.length ≤ sizeLine
section
variable {X : Cx} {pins : List (Addr × Obj)} {σ : St} {H : Hp} {s : Shared} {a : Addr} {kvs : List (Key × V)}
theorem ents_pairs {P : Program} {w : World} : ∀ {es : List DictEntry} {kvs : List (Key × V)}, Paired EntIs es kvs → ∃ vs, Pairs (mixKind P w) es vs ∧ KV kvs vs ∧ vs.map (·.1) = kvs.map (·.1)
  | _, _, .nil => ⟨[], .nil, .nil, rfl⟩
  | e :: _, p :: _, .cons h t => by
    obtain ⟨vs, h1, h2, h3⟩ := ents_pairs (P := P) (w := w) t
    obtain ⟨⟨x, tk, e1, e2⟩, r⟩ := h
    refine ⟨(p.1, e.val) :: vs, .cons ?_ rfl h1, .cons ⟨rfl, r⟩ h2, by rw [List.map_cons, List.map_cons, h3]⟩
    show keyIs p.1 e.key = true
    rw [e1, e2]
    exact keyIs_str x tk
theorem kdat_at (D : KDat X.K X.w a kvs) (I : Inv X pins σ H s) : ∃ (o : Obj) (es : Array DictEntry) (ep : Nat) (vs : List (Key × Value)), s.heap.get? a = some o ∧ o.ExactDict ∧ o.data = .dict es ep ∧ es.size = kvs.length ∧ KV kvs vs ∧ s.heap.DictAt (mixKind X.prog X.w) a vs ep := by
  obtain ⟨es, n, h1, h2, h3⟩ := D.ex
  obtain ⟨vs, p1, p2, p3⟩ := ents_pairs (P := X.prog) (w := X.w) h3
  have hg := I.kIn _ _ h1
  refine ⟨_, es, n, vs, hg, ⟨rfl, rfl, rfl⟩, rfl, ?_, p2, _, es, hg, ⟨rfl, rfl, rfl⟩, rfl, fun e he => ?_, p1, ?_⟩
  · have := h3.length
    rw [Array.length_toList] at this
    exact this
  · obtain ⟨x, t, e1, e2⟩ := h2.all e (Array.mem_toList_iff.mpr he)
    exact ⟨.inr x, by rw [e1]; exact keyIs_str x t, e2⟩
  · have e : vs.map (·.1) = kvs.map (·.1) := p3
    rw [e]
    exact D.nd

/-! ### len, list -/
theorem call_lenP (D : KDat X.K X.w a kvs) : CallR X (.builtin "len") (fun xs H Q => xs = [V.ref a] ∧ Q (.int kvs.length) H) := by
  intro pins s σ H xs us Q I r q
  obtain ⟨rfl, q⟩ := q
  obtain ⟨u, rfl, ru⟩ := vals1 r
  cases ru
  obtain ⟨o, es, ep, vs, _, _, _, _, kk, dd⟩ := kdat_at D I
  have hl : kvs.length = vs.length := Paired.length kk
  have h0 := sizeLine_eq
  have h1 := D.sz
  exact call_len_dict D.low dd.dictOf (by omega) ⟨.int kvs.length, H, I.tok _, ⟨_, by rw [hl]⟩, q⟩
theorem call_listP (hc : X.calm = true) (D : KDat X.K X.w a kvs) : CallR X (.type "list") (fun xs H Q => xs = [.ref a] ∧ ∀ p, H p = none → Q (.ref p) (upd H p (.lst (kvs.map fun kv => kV kv.1)))) := by
  intro pins s σ H xs us Q I r q
  obtain ⟨rfl, q⟩ := q
  obtain ⟨u, rfl, ru⟩ := vals1 r
  cases ru
  obtain ⟨o, es, ep, vs, _, _, _, _, kk, dd⟩ := kdat_at D I
  have ek : (kvs.map fun kv => kV kv.1) = vs.map fun p => kV p.1 := by
    have z := congrArg (List.map kV) kk.keys
    rw [List.map_map, List.map_map] at z
    exact z
  refine PySem.W.kdl_call (PySem.W.kdl_dict (knd := mixKind X.prog X.w) (kvs := vs) (ep := ep) D.low) (I.ok.hd hc) dd (by rw [← Paired.length kk]; exact D.sz) fun h' tk acc c' hk hD hacc => ?_
  have hv : Vals (vs.map fun p => kV p.1) acc.toList := keys_at (by rw [Array.length_toList]; exact hacc.1) fun j v z => hacc.2 j v (by rw [← Array.getElem?_toList]; exact z)
  have hnew : ObjOk X.prog X.w (upd H s.heap.objs.size (.lst (kvs.map fun kv => kV kv.1))) h' s.heap.objs.size (.lst (kvs.map fun kv => kV kv.1)) :=
    ⟨by rw [List.length_map]; exact D.sz, acc.toList, c', by rw [ek]; exact hv, by rw [Array.toArray_toList]; exact hD⟩
  exact ⟨.ref s.heap.objs.size, _, I.laid (t' := tk) hk (Nat.le_refl _) hnew, rfl, q _ (I.hok.fresh (Nat.le_refl _))⟩
end
/-- the built-ins on the dict at a, n keys -/
def onP (a : Addr) (g : List Ob → R D) : List D → List Ob → R D := fun ds μ => match ds with
  | [.vv (.ref b)] => if b = a then g μ else .bad
  | _ => .bad
section
variable {K : PySem.W.Frag} {a : Addr} {kvs : List (Key × V)}
theorem opn_lenP : Opn K (fun xs H Q => xs = [V.ref a] ∧ Q (.int kvs.length) H) (onP a fun μ => .ok (.int (kvs.length : Nat)) μ) := fun γ α F H μ vs ds Q E w hv q => by
  unfold onP at q
  split at q
  · split at q
    · rename_i b hb
      subst hb
      obtain ⟨v, rfl, h⟩ := hv.one
      have e := Is.toVv h
      subst e
      exact ⟨rfl, fin_ok w (.int _) q⟩
    · exact q.elim
  · exact q.elim
theorem opn_listP : Opn K (fun xs H Q => xs = [.ref a] ∧ ∀ p, H p = none → Q (.ref p) (upd H p (.lst (kvs.map fun kv => kV kv.1)))) (onP a fun μ => .ok (.lst ((kvs.map (·.1)).map Key.d)) μ) := fun γ α F H μ vs ds Q E w hv q => by
  unfold onP at q
  split at q
  · split at q
    · rename_i b hb
      subst hb
      obtain ⟨v, rfl, h⟩ := hv.one
      have e := Is.toVv h
      subst e
      refine ⟨rfl, fun p hp => ?_⟩
      have l : IsL K α F (kvs.map fun kv => kV kv.1) ((kvs.map (·.1)).map Key.d) := by
        have := keys_is (K := K) (α := α) (F := F) (kvs.map (·.1))
        rw [List.map_map] at this
        exact this
      exact fin_lay w hp (.lst upd_same (l.mono (List.prefix_refl _) (same_new (w.sub.free hp)))) q
    · exact q.elim
  · exact q.elim
end

/-! ### walked: its keys, its pairs -/
def ItkP (kvs : List (Key × V)) : It := ⟨fun i _ => i < kvs.length, fun i H x H' => H' = H ∧ ∃ k v, kvs[i]? = some (k, v) ∧ x = kV k, fun i _ => kvs.length ≤ i⟩
def ItiP (kvs : List (Key × V)) : It := ⟨fun i _ => i < kvs.length, fun i H x H' => ∃ T k v, kvs[i]? = some (k, v) ∧ x = .ref T ∧ H T = none ∧ H' = upd H T (.tup [kV k, v]), fun i _ => kvs.length ≤ i⟩
section
variable {P : Program} {w : World} {K : PySem.W.Frag} {tg : Expr} {d : Addr} {ep : Nat} {kvs : List (Key × V)}
theorem same_ep {h : Heap} {o : Obj} {es es' : Array DictEntry} {ep ep' : Nat} (h1 : o.data = .dict es ep) (h2 : o.data = .dict es' ep') : ep' = ep := by
  rw [h1] at h2
  injection h2 with _ e
  exact e.symm
/-- the entries' place is the written one -/
theorem kdat_ep {X : Cx} {pins : List (Addr × Obj)} {σ : St} {H : Hp} {s : Shared} {a : Addr} (D : KDat X.K X.w a kvs) (I : Inv X pins σ H s) (es0 : Array DictEntry) (h0 : X.K.lookup a = some ⟨.type "dict", none, .dict es0 ep, #[]⟩) :
    ∃ (o : Obj) (vs : List (Key × Value)), s.heap.get? a = some o ∧ o.ExactDict ∧ o.data = .dict es0 ep ∧ es0.size = kvs.length ∧ KV kvs vs ∧ s.heap.DictAt (mixKind X.prog X.w) a vs ep := by
  obtain ⟨o, es, ep', vs, h1, h2, h3, h4, h5, h6⟩ := kdat_at D I
  have h7 := I.kIn _ _ h0
  rw [h1] at h7
  have e := Option.some.inj h7
  subst e
  injection h3 with e1 e2
  subst e1
  subst e2
  exact ⟨_, vs, h1, h2, rfl, h4, h5, h6⟩
theorem turn_keysP {es : Array DictEntry} (it : Addr) (D : KDat K w d kvs) (h0 : K.lookup d = some ⟨.type "dict", none, .dict es ep, #[]⟩) : Turn P w K tg (ItkP kvs) [it] it (fun i h => h.IsKeyIter it d i kvs.length ep) where
  mem := by simp
  obj := fun i h st b hb => by
    have e : b = it := by simpa using hb
    subst e
    obtain ⟨oi, e, c, dd⟩ := st
    exact ⟨oi, e, fun v z => by rw [dd] at z; cases z⟩
  keep := fun i h h' st k => st.at fun oi e => k it (by simp) oi e
  item := by
    intro X hP hw hK hc i pins s σ H E I hf st hg
    subst hP hw hK
    have hi : i < kvs.length := hg
    obtain ⟨f0, f1, f2, f3, f4, f5⟩ := hf it (by simp)
    obtain ⟨o, vs, hgd, hx, hdt, hsz, kv, hm⟩ := kdat_ep D I es h0
    obtain ⟨⟨k, v⟩, hkv⟩ : ∃ p, kvs[i]? = some p := ⟨kvs[i], List.getElem?_eq_getElem hi⟩
    obtain ⟨u, hu, ru⟩ := kv_get kv hkv
    have hl : kvs.length = vs.length := Paired.length kv
    rw [hl] at st
    refine wpAny_pyNext_dict_item st hm hu fun key h' hkey st' sb => ?_
    have I1 : Inv X pins σ H { s with heap := h' } := I.turned (t' := s.toks) (fun b ob hb e => (sb.2 b hb).trans e) f0 f1 f3 f4 f5
    obtain ⟨oi, e, c, dd⟩ := id st'
    refine ⟨key, rfl, go_of (s := { s with heap := h' }) e c dd (by decide) ⟨kV k, H, I1, relV_key (show keyIs k key = true from hkey), ⟨rfl, k, v, hkv, rfl⟩, ?_, fun b hb => (hf b hb).1⟩⟩
    show h'.IsKeyIter it d (i + 1) kvs.length _
    rw [hl]
    exact st'
  done := by
    intro X hP hw hK hc i pins s σ H E I hf st hg
    subst hP hw hK
    obtain ⟨f0, f1, f2, f3, f4, f5⟩ := hf it (by simp)
    obtain ⟨o, vs, hgd, hx, hdt, hsz, kv, hm⟩ := kdat_ep D I es h0
    exact next_key_end (I.ok.hd hc) st hgd hdt hsz hg fun h' eb => ⟨rfl, I.turned (t' := s.toks) (fun b ob hb e => eb b ob hb e) f0 f1 f3 f4 f5⟩
  self := fun A i s Q E st h => wpAny_pyIter_keyiter st h
theorem turn_itemsP {es : Array DictEntry} {elts : List Expr} {kk : Nat} {tpos : Pos} (it : Addr) (D : KDat K w d kvs) (h0 : K.lookup d = some ⟨.type "dict", none, .dict es ep, #[]⟩) :
    Turn P w K (.Tuple elts kk tpos) (ItiP kvs) [it] it (fun i h => ∃ ok ov, IsItemIter h it d i kvs.length ep ok ov) where
  mem := by simp
  obj := fun i h st b hb => by
    have e : b = it := by simpa using hb
    subst e
    obtain ⟨ok, ov, e⟩ := st
    exact ⟨_, e, fun v z => nomatch z⟩
  keep := fun i h h' st k => let ⟨ok, ov, e⟩ := st; ⟨ok, ov, k it (by simp) _ e⟩
  item := by
    intro X hP hw hK hc i pins s σ H E I hf st hg
    subst hP hw hK
    have hi : i < kvs.length := hg
    obtain ⟨o, vs, hgd, hx, hdt, hsz, kv, hm⟩ := kdat_ep D I es h0
    obtain ⟨⟨k, v⟩, hkv⟩ : ∃ p, kvs[i]? = some p := ⟨kvs[i], List.getElem?_eq_getElem hi⟩
    obtain ⟨u, hu, ru⟩ := kv_get kv hkv
    have hl : kvs.length = vs.length := Paired.length kv
    obtain ⟨ok, ov, he⟩ := st
    rw [hl] at he
    have hlt : it < s.heap.objs.size := Heap.lt_size he
    refine wpAny_pyNext_items_item he hm hu fun key h' hkey ho hT hz hk => ?_
    refine ⟨_, rfl, wpAny_letOwnedTupleGo_items (s := { s with heap := h' }) ho fun h'' he' sb => ?_⟩
    have hT2 : h''.get? s.heap.objs.size = some { cls := .type "tuple", data := .seq #[key, u] } := (sb.2 _ (Nat.ne_of_gt hlt)).trans hT
    have new : ObjOk X.prog X.w (upd H s.heap.objs.size (.tup [kV k, v])) h'' s.heap.objs.size (.tup [kV k, v]) :=
      ⟨by show 2 ≤ sizeLine; decide, [key, u], .cons (relV_key (show keyIs k key = true from hkey)) (.cons ru .nil), ⟨_, hT2, rfl, _, rfl⟩⟩
    have I1 : Inv X pins σ (upd H s.heap.objs.size (.tup [kV k, v])) { s with heap := h'' } :=
      I.turnedNew (t' := s.toks) (ch := [it]) (fun b ob hb e => (sb.2 b (by simpa using hb)).trans (hk b ob (by simpa using hb) e)) hf (Nat.le_refl _) new
    refine ⟨.ref s.heap.objs.size, _, I1, rfl, ⟨_, k, v, hkv, rfl, I.hok.fresh (Nat.le_refl _), rfl⟩, ⟨key, u, ?_⟩, fun b hb => ?_⟩
    · rw [hl]; exact he'
    · have e : b = it := by simpa using hb
      rw [e, upd_ne (Nat.ne_of_lt hlt)]
      exact (hf it (by simp)).1
  done := by
    intro X hP hw hK hc i pins s σ H E I hf st hg
    subst hP hw hK
    obtain ⟨f0, f1, f2, f3, f4, f5⟩ := hf it (by simp)
    obtain ⟨o, vs, hgd, hx, hdt, hsz, kv, hm⟩ := kdat_ep D I es h0
    have hl : kvs.length = vs.length := Paired.length kv
    have hge : kvs.length ≤ i := hg
    obtain ⟨ok, ov, he⟩ := st
    rw [hl] at he
    exact wpAny_pyNext_items_end (I.ok.hd hc) he hm (List.getElem?_eq_none (by omega)) fun h' eb => ⟨rfl, I.turned (t' := s.toks) (fun b ob hb e => eb b ob hb e) f0 f1 f3 f4 f5⟩
  self := fun A i s Q E st h => let ⟨_, _, e⟩ := st; PySem.W.kcp_self e h
end
section
variable {X : Cx} {tg e : Expr} {td : TE} {apos cpos : Pos} {a : Addr} {kvs : List (Key × V)}
theorem pi_keysP (D : KDat X.K X.w a kvs) (he : PE X e td) : PI X tg e (fun σ H R => td σ H fun x H1 => x = .ref a ∧ R (ItkP kvs) H1) := by
  refine ⟨fun pins s σ H R I h => ?_⟩
  refine thn (he.run pins s σ H _ I h) fun u s1 ⟨x, H1, I1, rx, ex, q⟩ => ?_
  subst ex
  obtain rfl : u = Value.ref a := rx
  obtain ⟨es, n, h0, h1, h2⟩ := D.ex
  obtain ⟨o, vs, hgd, hx, hdt, hsz, kv, hm⟩ := kdat_ep D I1 es h0
  refine iter_keys D.low hgd hx hdt (pi_one (tk := s1.toks) I1 _ (turn_keysP _ D h0) ⟨_, Heap.get?_push_size _ rfl, rfl, ?_⟩ q)
  rw [hsz] <;> rfl
theorem pi_itemsP {elts : List Expr} {kk : Nat} {tpos : Pos} (D : KDat X.K X.w a kvs) (he : PE X e td) (hbase : attributeBase e "items" X.env (eval e X.env) = eval e X.env := by rfl) (hline : (apos.endLine == cpos.line) = true := by rfl) :
    PI X (.Tuple elts kk tpos) (.Call (.Attribute e "items" apos) [] [] cpos) (fun σ H R => td σ H fun x H1 => x = .ref a ∧ R (ItiP kvs) H1) := by
  refine ⟨fun pins s σ H R I h => ?_⟩
  refine wpAny_Call_method (T := "dict") (id := "dict.items") hbase rfl hline F.plainAttrs_dict F.slot_dict_items F.type_dict_items (thn (he.run pins s σ H _ I h) fun u s1 ⟨x, H1, I1, rx, ex, q⟩ => ?_)
  subst ex
  obtain rfl : u = Value.ref a := rx
  obtain ⟨es, n, h0, h1, h2⟩ := D.ex
  obtain ⟨o, vs, hgd, hx, hdt, hsz, kv, hm⟩ := kdat_ep D I1 es h0
  have hl : kvs.length = vs.length := Paired.length kv
  refine ⟨hm.dictOf.typeIs, hm.dictOf.mapOf.noDict, ?_⟩
  have I2 : Inv X pins σ H1 { s1 with heap := s1.heap.push { cls := .type "dict_items", data := .fields #[.ref a] } } := I1.kept (t' := s1.toks) fun b ob q => Heap.get?_push_of_some _ q
  have fin : wpAny (model X.prog X.w) X.A (pyIter (.ref s1.heap.objs.size)) (PIE X pins σ (.Tuple elts kk tpos) R) X.xe { s1 with heap := s1.heap.push { cls := .type "dict_items", data := .fields #[.ref a] } } := by
    refine wpAny_pyIter_items (d := a) (knd := mixKind X.prog X.w) ⟨_, Heap.get?_push_size _ rfl, rfl, rfl⟩ (hm.push _) (pi_one (tk := s1.toks) I2 _ (turn_itemsP _ D h0) ⟨.none, .none, ?_⟩ q)
    rw [hl]
    exact Heap.get?_push_size _ rfl
  show wpAny _ _ (callWith cpos (.builtin "dict.items") [.ref a] [] []) _ X.xe s1
  exact method_meetsIn F.slot_dict_items F.entry_dict_items rfl (PySem.evalArgs_none ⟨rfl, hm.dictOf.typeIs, F.args_dict_items_1 _, _, meets_dict_items (mixKind X.prog X.w) a D.low, ⟨vs, hm.dictOf⟩, fin⟩)
end
section
variable {K : PySem.W.Frag} {γ : Hp} {α : List Addr} {F H : Hp} {μ : List Ob} {kvs : List (Key × V)} {xs : List D}
theorem walk_keysP : WalkD K α F (ItkP kvs) ((kvs.map (·.1)).map Key.d) := fun i γ α' F' H μ p e w => by
  refine ⟨fun d hd => ?_, fun hi => ?_⟩
  · rw [List.getElem?_map, List.getElem?_map] at hd
    cases hk : kvs[i]? with
    | none => rw [hk] at hd; cases hd
    | some kv =>
      rw [hk] at hd
      cases hd
      refine ⟨(List.getElem?_eq_some_iff.mp hk).1, fun x H' ⟨e1, k, v, e2, e3⟩ => ?_⟩
      rw [hk] at e2
      cases e2
      subst e1 e3
      exact ⟨F', Same.refl F', w, key_is⟩
  · rw [List.length_map, List.length_map] at hi
    exact Nat.le_of_eq hi.symm
/-- the pairs as data -/
def pairsP (ks : List Key) (xs : List D) : List D := List.zipWith (fun k x => D.tup [Key.d k, x]) ks xs
theorem walk_itemsP (l : ∀ α F, IsL K α F (kvs.map (·.2)) xs) : WalkD K α F (ItiP kvs) (pairsP (kvs.map (·.1)) xs) := fun i γ α' F' H μ p e w => by
  have hl : kvs.length = xs.length := by
    have := (l α F).length
    rw [List.length_map] at this
    exact this
  refine ⟨fun d hd => ?_, fun hi => ?_⟩
  · unfold pairsP at hd
    rw [List.getElem?_zipWith, List.getElem?_map] at hd
    cases hk : kvs[i]? with
    | none => rw [hk] at hd; cases hd
    | some kv =>
      rw [hk] at hd
      cases hx : xs[i]? with
      | none => rw [hx] at hd; cases hd
      | some x =>
        rw [hx] at hd
        cases hd
        refine ⟨(List.getElem?_eq_some_iff.mp hk).1, fun y H' ⟨T, k, v, e2, e3, e4, e5⟩ => ?_⟩
        rw [hk] at e2
        cases e2
        subst e3 e5
        have ft : F' T = none := w.sub.free e4
        obtain ⟨u, hu, iu⟩ := (l α' (upd F' T (.tup [kV k, v]))).get (i := i) (d := x) hx
        rw [List.getElem?_map, hk] at hu
        cases hu
        exact ⟨_, same_new ft, w.lay e4, .tup (.inl (.inl upd_same)) (.cons key_is (.cons iu .nil))⟩
  · unfold pairsP at hi
    rw [List.length_zipWith, List.length_map] at hi
    show kvs.length ≤ i
    omega
end
def rP (a : Addr) (ds : List D) (f : RE) : RA := fun δ μ => (f δ μ).bind fun d μ1 => match d with
  | .vv (.ref b) => if b = a then .ok ds μ1 else .bad
  | _ => .bad
section
variable {X : Cx} {W : WX} {tg e : Expr} {f : RE} {apos cpos : Pos} {a : Addr} {kvs : List (Key × V)} {xs : List D}
theorem tD_P {K : PySem.W.Frag} {ds : List D} {J : It} (hw : ∀ α F, WalkD K α F J ds) (σ : St) (H : Hp) (R : It → Hp → Prop) : tDI K W (rP a ds f) σ H R → tD K W f σ H fun x H1 => x = .ref a ∧ R J H1 := fun ⟨γ, α, F, μ, δ, w, s, q⟩ =>
  tD_go w s q fun d μ1 α1 F1 H1 v p1 e1 w1 s1 hv q1 => by
    split at q1
    · split at q1
      · rename_i b hb
        subst hb
        have e := Is.toVv hv
        subst e
        exact ⟨rfl, q1 α1 F1 H1 (List.prefix_refl _) (Same.refl F1) w1 J (hw _ _)⟩
      · exact q1.elim
    · exact q1.elim
theorem pdi_keysP (D : KDat X.K X.w a kvs) (he : PD X W e f) : PDI X W tg e (rP a ((kvs.map (·.1)).map Key.d) f) := pi_weak (pi_keysP D he) (tD_P fun _ _ => walk_keysP)
theorem pdi_itemsP {elts : List Expr} {kk : Nat} {tpos : Pos} (D : KDat X.K X.w a kvs) (l : ∀ α F, IsL X.K α F (kvs.map (·.2)) xs) (he : PD X W e f) (hbase : attributeBase e "items" X.env (eval e X.env) = eval e X.env := by rfl) (hline : (apos.endLine == cpos.line) = true := by rfl) :
    PDI X W (.Tuple elts kk tpos) (.Call (.Attribute e "items" apos) [] [] cpos) (rP a (pairsP (kvs.map (·.1)) xs) f) := pi_weak (pi_itemsP D he hbase hline) (tD_P fun _ _ => walk_itemsP l)
end
end DL

/-! The data layer, l: dict comprehensions whose dict stands still. -/
namespace DL
open PySem L2
def dcL (t : Tg) (vs : List Nat) (ft : RT) (fk fe : RE) : List D → Sl → List Ob → List Key → List D → R (List Key × List D)
  | [], _, μ, ks, xs => .ok (ks, xs) μ
  | x :: r, δ, μ, ks, xs => match t.set x (wipeD δ vs) with
    | none => .bad
    | some δ1 => match ft δ1 μ with
      | .ok false μ2 => dcL t vs ft fk fe r δ μ2 ks xs
      | .ok true μ2 => match fk δ1 μ2 with
        | .ok dk μ3 => match dk.key with
          | some k => match fe δ1 μ3 with
            | .ok d μ4 => if ks.length < 16777216 then dcL t vs ft fk fe r δ μ4 (putKs ks k) (putXs ks xs k d) else .bad
            | _ => .bad
          | none => .bad
        | _ => .bad
      | _ => .bad
def rDc (fi : RA) (t : Tg) (vs : List Nat) (ft : RT) (fk fe : RE) : RE := fun δ μ => (fi δ μ).bind fun ds μ1 => (dcL t vs ft fk fe ds δ μ1 [] []).bind fun p μ2 => .ok (.dct p.1 p.2) μ2
section
variable {K : PySem.W.Frag} {W : WX}
theorem tD_dc {fi : RA} {t : Tg} {vs : List Nat} {ft : RT} {fk fe : RE} (hv : ∀ i ∈ t.slots, i ∈ vs) (σ : St) (H : Hp) (Q : VK) (h : tD K W (rDc fi t vs ft fk fe) σ H Q) :
    tDc (tDI K W fi) (t.rd K) (tDT K W0 ft) (tD K W0 fk) (tD K W0 fe) vs σ H (fun v H1 => ∃ a kvs, v = .ref a ∧ H1 a = some (.dK kvs) ∧ ∀ o, Q v (upd H1 a (.frz o (.dK kvs)))) := by
  obtain ⟨γ, α, F, μ, δ, w, s, q⟩ := h
  refine ⟨γ, α, F, μ, δ, w, s, ?_⟩
  unfold rDc at q
  cases hf : fi δ μ with
  | bad => rw [hf] at q; exact q
  | exc x μ1 => rw [hf] at q; exact q
  | ok ds μ1 =>
    rw [hf] at q
    intro α1 F1 H1 p1 e1 w1 J hJ Dl hD
    have q1 := Fin.up p1 e1 q
    have s1 := s.mono p1 e1
    rw [R.ok_bind] at q1
    have gD : γ Dl = none := w1.gs.free hD
    refine ⟨fun i m H => m = ds.length - i ∧ i ≤ ds.length ∧ ∃ α' F' μ' xs kvs, Wd K (upd γ Dl (.dK kvs)) α' F' H μ' ∧ SlIs K α' F' σ δ ∧ WalkD K α' F' J ds ∧ IsL K α' F' (kvs.map (·.2)) xs ∧
        Fin K γ α' F' ((dcL t vs ft fk fe (ds.drop i) δ μ' (kvs.map (·.1)) xs).bind fun p μ2 => .ok (.dct p.1 p.2) μ2) (okD K Q) (fun c dd H' => W c dd σ H'),
      ⟨ds.length, by simp, Nat.zero_le _, α1, F1, μ1, [], [], w1.gnew hD, s1, hJ, .nil, by rw [List.drop_zero]; exact q1⟩, ?_⟩
    rintro i m H2 ⟨rfl, hi, α2, F2, μ2, acc, kvs, w2, s2, hJ2, hl, q2⟩
    obtain ⟨j1, j2⟩ := hJ2 i _ α2 F2 H2 μ2 (List.prefix_refl _) (Same.refl F2) w2
    by_cases hlt : i < ds.length
    · obtain ⟨hgo, hy⟩ := j1 ds[i] (List.getElem?_eq_getElem hlt)
      rw [List.drop_eq_getElem_cons hlt] at q2
      unfold dcL at q2
      right
      refine ⟨hgo, fun H' => i + 1 ≤ ds.length ∧ ∃ α' F' μ' xs kvs, Wd K (upd γ Dl (.dK kvs)) α' F' H' μ' ∧ SlIs K α' F' σ δ ∧ WalkD K α' F' J ds ∧ IsL K α' F' (kvs.map (·.2)) xs ∧
          Fin K γ α' F' ((dcL t vs ft fk fe (ds.drop (i + 1)) δ μ' (kvs.map (·.1)) xs).bind fun p μ2 => .ok (.dct p.1 p.2) μ2) (okD K Q) (fun c dd H' => W c dd σ H'),
        fun H' n => ⟨ds.length - (i + 1), by omega, rfl, n.1, n.2⟩, fun x H3 y => ?_⟩
      obtain ⟨F3, e3, w3, hx⟩ := hy x H3 y
      have q3 := Fin.up (List.prefix_refl _) e3 q2
      have s3 := s2.mono (List.prefix_refl _) e3
      cases ht : t.set ds[i] (wipeD δ vs) with
      | none => rw [ht] at q3; exact q3.elim
      | some δ3 =>
        rw [ht] at q3
        refine Tg.go w3 (s3.wipe vs) hx ht fun σ4 s4 hw4 _ => ⟨?_, ?_⟩
        · rw [hw4 vs hv]
          exact wipe_wipe σ vs
        · refine ⟨_, α2, F3, μ2, δ3, w3, s4, ?_⟩
          dsimp only at q3
          cases hft : ft δ3 μ2 with
          | bad => rw [hft] at q3; exact q3.elim
          | exc x μ4 => rw [hft] at q3; exact q3.elim
          | ok b μ4 =>
            rw [hft] at q3
            intro α4 F4 H4 p4 e4 w4
            have q4 := Fin.up p4 e4 q3
            cases b with
            | false =>
              exact iteF ⟨hlt, α4, F4, μ4, acc, kvs, w4, s3.mono p4 e4, hJ2.mono p4 (e3.trans e4), hl.mono p4 (e3.trans e4), q4⟩
            | true =>
              refine iteT ⟨_, α4, F4, μ4, δ3, w4, s4.mono p4 e4, ?_⟩
              dsimp only at q4
              cases hfk : fk δ3 μ4 with
              | bad => rw [hfk] at q4; exact q4.elim
              | exc x μ5 => rw [hfk] at q4; exact q4.elim
              | ok dk μ5 =>
                rw [hfk] at q4
                intro α5 F5 H5 p5 e5 w5 v hvk
                have q5 := Fin.up p5 e5 q4
                dsimp only at q5
                cases hk : dk.key with
                | none => rw [hk] at q5; exact q5.elim
                | some k =>
                  rw [hk] at q5
                  have ek := key_kV hvk hk
                  refine ⟨_, α5, F5, μ5, δ3, w5, (s4.mono p4 e4).mono p5 e5, ?_⟩
                  dsimp only at q5
                  cases hfe : fe δ3 μ5 with
                  | bad => rw [hfe] at q5; exact q5.elim
                  | exc x μ6 => rw [hfe] at q5; exact q5.elim
                  | ok z μ6 =>
                    rw [hfe] at q5
                    intro α6 F6 H6 p6 e6 w6 u huz
                    have q6 := Fin.up p6 e6 q5
                    dsimp only at q6
                    by_cases hz : (kvs.map (·.1)).length < 16777216
                    · rw [if_pos hz] at q6
                      rw [List.length_map] at hz
                      have hl6 := hl.mono (p4.trans (p5.trans p6)) (e3.trans (e4.trans (e5.trans e6)))
                      refine ⟨kvs, k, ek, w6.gs _ _ upd_same, by rw [sizeLine_eq]; exact hz, hlt, α6, F6, μ6, _, putK kvs k u, w6.gput gD, ((s3.mono p4 e4).mono p5 e5).mono p6 e6, hJ2.mono (p4.trans (p5.trans p6)) (e3.trans (e4.trans (e5.trans e6))), putK_vals hl6 huz, ?_⟩
                      rw [putK_keys]
                      exact q6
                    · rw [if_neg hz] at q6; exact q6.elim
    · have e : i = ds.length := by omega
      subst e
      rw [List.drop_length] at q2
      left
      refine ⟨j2 rfl, Dl, kvs, rfl, w2.gs _ _ upd_same, fun o => ?_⟩
      unfold dcL at q2
      have w3 := w2.gput (o' := .frz o (.dK kvs)) gD
      have fD : F2 Dl = none := w3.gf Dl (by rw [upd_same]; exact Option.some_ne_none _)
      have sn := same_new (o := .frz o (.dK kvs)) fD
      exact q2 α2 _ _ (List.prefix_refl _) sn (w3.gfrz gD) _ (.dct ⟨o, upd_same⟩ rfl (hl.mono (List.prefix_refl _) sn))
end
section
variable {X : Cx} {W : WX} {k : Nat}
theorem pd_dc {kx vx tg iter : Expr} {ifs : List Expr} {scope : Scope} {own : List (Str × Nat)} {pos : Pos} {fi : RA} {t : Tg} {ft : RT} {fk fe : RE} (g : Good X W k) (hi : PDI X W tg iter fi) (ok : BlkOk X.N X.env.scope scope own) (hv : ∀ i ∈ t.slots, i ∈ own.map (·.2))
    (hg : ∀ (s : Shared) (H : Hp) (C : Addr) (cl : List (Str × Addr)) (fp : List Addr), PDG (X.blk s H scope (compEnvC scope cl C X.env) fp) tg t)
    (ht : ∀ (s : Shared) (H : Hp) (C : Addr) (cl : List (Str × Addr)) (fp : List Addr), Good (X.blk s H scope (compEnvC scope cl C X.env) fp) W0 k → PDTs (X.blk s H scope (compEnvC scope cl C X.env) fp) W0 ifs ft)
    (hk : ∀ (s : Shared) (H : Hp) (C : Addr) (cl : List (Str × Addr)) (fp : List Addr), Good (X.blk s H scope (compEnvC scope cl C X.env) fp) W0 k → PD (X.blk s H scope (compEnvC scope cl C X.env) fp) W0 kx fk)
    (he : ∀ (s : Shared) (H : Hp) (C : Addr) (cl : List (Str × Addr)) (fp : List Addr), Good (X.blk s H scope (compEnvC scope cl C X.env) fp) W0 k → PD (X.blk s H scope (compEnvC scope cl C X.env) fp) W0 vx fe)
    (hs : ∀ x, foldedSetIterable iter X.env x = pure x := by intro _; rfl) : PD X W (.DictComp kx vx [⟨tg, iter, ifs, 0⟩] scope pos) (rDc fi t (own.map (·.2)) ft fk fe) :=
  pe_weak (pe_frz (pe_dc g.calm g.nd hi ok hg (fun s H C cl fp => ht s H C cl fp (g.blk s H scope _ fp)) (fun s H C cl fp => hk s H C cl fp (g.blk s H scope _ fp)) (fun s H C cl fp => he s H C cl fp (g.blk s H scope _ fp)) hs)) fun σ H Q h => tD_dc (ft := ft) (fk := fk) (fe := fe) hv σ H Q h
end
end DL

/-! The data layer, m: defs and classes of the text as facts; short rules for printed derivations. -/
namespace DL
open PySem L2

/-- a def of the text stands under its name -/
structure Df (K : PySem.W.Frag) (mg : Str → Option Value) (x : Str) (st : Stmt) (ps : List Str) : Prop where
  ex : ∃ (f : Addr) (fd : FuncData), Fun K x x st f fd ∧ Binds K fd ps [] ∧ mg x = some (.ref f) ∧ PySem.W.keepIn K (.ref f) = true
/-- a class of the text with its own __init__ -/
structure Dc (K : PySem.W.Frag) (mg : Str → Option Value) (x qi : Str) (st : Stmt) (C : Addr) (ps : List Str) : Prop where
  ex : ∃ (f : Addr) (fd : FuncData), Fun K "__init__" qi st f fd ∧ Binds K fd ps [] ∧ mg x = some (.ref C) ∧ Mk K C f
/-- .. its own == -/
structure De (K : PySem.W.Frag) (qe : Str) (st : Stmt) (C : Addr) (ps : List Str) : Prop where
  ex : ∃ (f : Addr) (fd : FuncData), Fun K "__eq__" qe st f fd ∧ Binds K fd ps [] ∧ PySem.W.findIn K (.ref C) "__eq__" = some (some (.ref f)) ∧ PySem.W.isFn K (.ref f) = true
section
variable {P : Program} {w : World} {K : PySem.W.Frag} {mg : Str → Option Value} {base : Heap} {x qual : Str} {st : Stmt} {ps N : List Str} {k : Nat} {ct : Ct} {fb : RS} {C : Addr}
abbrev Body (P : Program) (w : World) (K : PySem.W.Frag) (mg : Str → Option Value) (base : Heap) (qual : Str) (st : Stmt) (N : List Str) (k : Nat) (fb : RS) : Prop :=
  ∀ (f : Addr) (cdv : Value) (A : Around) (outer : List Env) (s : Shared) (H : Hp) (E : XK), Good (cxOf (L2.CX P w) P w K mg base N qual (defScope st) f cdv A outer s H E) (fun c d _ H' => E c d H') k → PSDs (cxOf (L2.CX P w) P w K mg base N qual (defScope st) f cdv A outer s H E) (fun c d _ H' => E c d H') (defBody st) fb
def Covs (N ps : List Str) (ct : Ct) (fb : RS) : Prop := ∀ ds μ, ds.length = ps.length → Cov μ (ct ds μ) (fb (ds.map some ++ List.replicate (N.length - ps.length) none) μ)
theorem Df.cal (d : Df K mg x st ps) (S : FnScope N ps (defScope st)) (b : Body P w K mg base x st N k fb) (c : Covs N ps ct fb) (hnp : ps.length ≤ N.length := by decide) : Cal P w K mg base (k + 1) x ps.length ct := by
  obtain ⟨f, fd, F, hb, hm, kp⟩ := d.ex
  exact ⟨f, fd, ps, rfl, fn_cal F S hnp (b f) c, hm, kp, hb⟩
theorem Dc.cml {qi : Str} {n : Nat} (d : Dc K mg x qi st C ps) (S : FnScope N ps (defScope st)) (b : Body P w K mg base qi st N k fb) (c : Covs N ps ct fb) (hn : ps.length = n + 1 := by rfl) (hnp : ps.length ≤ N.length := by decide) : Cml P w K mg base (k + 1) x C n ct := by
  obtain ⟨f, fd, F, hb, hm, M⟩ := d.ex
  exact ⟨f, fd, ps, hn, M, by rw [← hn]; exact fn_cal F S hnp (b f) c, hm, hb⟩
theorem De.ceq {qe : Str} (d : De K qe st C ps) (S : FnScope N ps (defScope st)) (b : Body P w K mg base qe st N k fb) (c : Covs N ps ct fb) (hn : ps.length = 2 := by rfl) (hnp : ps.length ≤ N.length := by decide) : Ceq P w K mg base (k + 1) C ct := by
  obtain ⟨f, fd, F, hb, h1, h2⟩ := d.ex
  exact ⟨f, fd, ps, hn, by rw [← hn]; exact fn_cal F S hnp (b f) c, h1, h2, hb⟩
/-- the contract that is the body itself -/
def ctOf (m : Nat) (fb : RS) : Ct := fun ds μ => match fb (ds.map some ++ List.replicate m none) μ with
  | .rt d μ1 => .ok d μ1
  | .nx _ μ1 => .ok .non μ1
  | .exc x _ μ1 => .exc x μ1
  | _ => .bad
theorem covs_of : Covs N ps (ctOf (N.length - ps.length) fb) fb := fun ds μ hl => by
  unfold ctOf
  cases h : fb (ds.map some ++ List.replicate (N.length - ps.length) none) μ with
  | rt d μ1 => exact ⟨rfl, .inl rfl⟩
  | nx δ μ1 => exact ⟨rfl, .inl rfl⟩
  | exc x δ μ1 => exact ⟨rfl, .inl rfl⟩
  | _ => trivial
end

/-! ### a comprehension's block, by computation -/
def blkOkB (N : List Str) (sc scope : Scope) (own : List (Str × Nat)) : Bool :=
  decide (scope.kind = .function) && (scope.names.all (fun y => decide (scope.names.lookup y.1 = some y.2)) && (own.all (fun p => decide (N[p.2]? = some p.1)) &&
    (scope.names.all (fun y => !decide (y.2 = .free) || (decide (sc.names.lookup y.1 = some .cell) || decide (sc.names.lookup y.1 = some .free))) &&
      scope.names.all (fun y => !(decide (y.2 = .local) || decide (y.2 = .cell)) || (decide (y.1 ∈ own.map (·.1)) || decide (y.1 ∉ N))))))
theorem blkOk_of {N : List Str} {sc scope : Scope} {own : List (Str × Nat)} (h : blkOkB N sc scope own = true) : BlkOk N sc scope own := by
  unfold blkOkB at h
  simp only [Bool.and_eq_true, List.all_eq_true, decide_eq_true_eq, Bool.or_eq_true, Bool.not_eq_true', decide_eq_false_iff_not] at h
  obtain ⟨h1, h2, h3, h4, h5⟩ := h
  refine ⟨h1, h2, h3, fun y hy hf => ?_, fun y hy hf => ?_⟩
  · rcases h4 y hy with q | q
    · exact absurd hf q
    · exact q
  · rcases h5 y hy with q | q
    · simp only [Bool.or_eq_false_iff, decide_eq_false_iff_not] at q
      rcases hf with hf | hf
      · exact absurd hf q.1
      · exact absurd hf q.2
    · exact q

section
variable {X : Cx} {W : WX} {a b c e : Expr} {es : List Expr} {fa fb fc f : RE} {ft fu : RT} {fs : RA} {pos p : Pos} {k : Nat}
/-! ### short forms -/
theorem pd_eq (g : Good X W k) (ha : PD X W a fa) (hb : PD X W b fb) (hm : behindInMarks .Eq b = false := by rfl) : PD X W (.Compare a [.Eq] [b] pos) (rBin eqD fa fb) := pd_cmp (op_eqD (by have := g.hu; omega)) op2_eq hm ha hb
theorem pd_ne (g : Good X W k) (ha : PD X W a fa) (hb : PD X W b fb) (hm : behindInMarks .NotEq b = false := by rfl) : PD X W (.Compare a [.NotEq] [b] pos) (rBin neD fa fb) := pd_cmp (op_neD (by have := g.hu; omega)) op2_ne hm ha hb
theorem pdt_eq (g : Good X W k) (ha : PD X W a fa) (hb : PD X W b fb) (hm : behindInMarks .Eq b = false := by rfl) : PDT X W (.Compare a [.Eq] [b] pos) (rT (rBin eqD fa fb)) := pdt_cmp (op_eqD (by have := g.hu; omega)) op2_eq hm ha hb
theorem pdt_ne (g : Good X W k) (ha : PD X W a fa) (hb : PD X W b fb) (hm : behindInMarks .NotEq b = false := by rfl) : PDT X W (.Compare a [.NotEq] [b] pos) (rT (rBin neD fa fb)) := pdt_cmp (op_neD (by have := g.hu; omega)) op2_ne hm ha hb
theorem pdt_lt (ha : PD X W a fa) (hb : PD X W b fb) (hm : behindInMarks .Lt b = false := by rfl) : PDT X W (.Compare a [.Lt] [b] pos) (rT (rBin ltD fa fb)) := pdt_cmp op_lt op2_intB hm ha hb
theorem pdt_le (ha : PD X W a fa) (hb : PD X W b fb) (hm : behindInMarks .LtE b = false := by rfl) : PDT X W (.Compare a [.LtE] [b] pos) (rT (rBin leD fa fb)) := pdt_cmp op_le op2_intB hm ha hb
theorem pdt_gt (ha : PD X W a fa) (hb : PD X W b fb) (hm : behindInMarks .Gt b = false := by rfl) : PDT X W (.Compare a [.Gt] [b] pos) (rT (rBin gtD fa fb)) := pdt_cmp op_gt op2_intB hm ha hb
theorem pdt_ge (ha : PD X W a fa) (hb : PD X W b fb) (hm : behindInMarks .GtE b = false := by rfl) : PDT X W (.Compare a [.GtE] [b] pos) (rT (rBin geD fa fb)) := pdt_cmp op_ge op2_intB hm ha hb
theorem pd_lt (ha : PD X W a fa) (hb : PD X W b fb) (hm : behindInMarks .Lt b = false := by rfl) : PD X W (.Compare a [.Lt] [b] pos) (rBin ltD fa fb) := pd_cmp op_lt op2_intB hm ha hb
theorem pd_le (ha : PD X W a fa) (hb : PD X W b fb) (hm : behindInMarks .LtE b = false := by rfl) : PD X W (.Compare a [.LtE] [b] pos) (rBin leD fa fb) := pd_cmp op_le op2_intB hm ha hb
theorem pd_gt (ha : PD X W a fa) (hb : PD X W b fb) (hm : behindInMarks .Gt b = false := by rfl) : PD X W (.Compare a [.Gt] [b] pos) (rBin gtD fa fb) := pd_cmp op_gt op2_intB hm ha hb
theorem pd_ge (ha : PD X W a fa) (hb : PD X W b fb) (hm : behindInMarks .GtE b = false := by rfl) : PD X W (.Compare a [.GtE] [b] pos) (rBin geD fa fb) := pd_cmp op_ge op2_intB hm ha hb
theorem pdt_is (ha : PD X W a fa) (hb : PD X W b fb) (hm : behindInMarks .Is b = false := by rfl) : PDT X W (.Compare a [.Is] [b] pos) (rT (rBin isN fa fb)) := pdt_cmp op_isN op2_isN hm ha hb
theorem pd_le2 (ha : PD X W a fa) (hb : PD X W b fb) (hc : PD X W c fc) (hm : lastMarks [.LtE, .LtE] [b, c] = false := by with_unfolding_all rfl) : PD X W (.Compare a [.LtE, .LtE] [b, c] pos) (rChain leD leD fa fb fc) := pd_chain op_le op_le op2_intB op2_intB intB_noexc ha hb hc hm
theorem pdt_le2 (ha : PD X W a fa) (hb : PD X W b fb) (hc : PD X W c fc) (hm : lastMarks [.LtE, .LtE] [b, c] = false := by with_unfolding_all rfl) : PDT X W (.Compare a [.LtE, .LtE] [b, c] pos) (rT (rChain leD leD fa fb fc)) := pdt_chain op_le op_le op2_intB op2_intB intB_noexc ha hb hc hm
theorem pd_add (ha : PD X W a fa) (hb : PD X W b fb) : PD X W (.BinOp a .Add b pos) (rBin addD fa fb) := pd_bin op_addA op2_add ha hb
theorem pd_sub (ha : PD X W a fa) (hb : PD X W b fb) : PD X W (.BinOp a .Sub b pos) (rBin subD fa fb) := pd_bin op_sub op2_intI0 ha hb
theorem pd_mul (ha : PD X W a fa) (hb : PD X W b fb) : PD X W (.BinOp a .Mult b pos) (rBin mulD fa fb) := pd_bin op_mul op2_mul ha hb
theorem pd_fdiv (ha : PD X W a fa) (hb : PD X W b fb) : PD X W (.BinOp a .FloorDiv b pos) (rBin divD fa fb) := pd_bin op_fdiv op2_div ha hb
theorem pd_mod (ha : PD X W a fa) (hb : PD X W b fb) : PD X W (.BinOp a .Mod b pos) (rBin modD fa fb) := pd_bin op_mod op2_mod ha hb
theorem pd_pow (ha : PD X W a fa) (hb : PD X W b fb) : PD X W (.BinOp a .Pow b pos) (rBin powD fa fb) := pd_bin op_pow op2_pow ha hb
theorem pd_len (hm : X.mg "len" = none) (ha : PDA X W [e] fs) (hg : Gl X "len" := by rfl) (he : starEach [e] X.env = (false, eval e X.env) :: starEach [] X.env := by rfl) : PD X W (.Call (.Name "len" p) [e] [] pos) (rCB lenD fs) :=
  pd_callB call_lenA opn_len PySem.boot_len hm ha hg (by decide) (by decide) he rfl
theorem pd_isT (T : String) (hm : X.mg "isinstance" = none) (ha : PDA X W [a, b] fs) (hg : Gl X "isinstance" := by rfl) (he : starEach [a, b] X.env = (false, eval a X.env) :: starEach [b] X.env := by rfl) (hpl : (backTo pos (starEach [b] X.env)).any (·.1) = false := by rfl) :
    PD X W (.Call (.Name "isinstance" p) [a, b] [] pos) (rCB (isiD (.ty T) (isT T)) fs) :=
  pd_callB call_isi (opn_isi isiQ_ty) PyProof.Rows.boot_isinstance hm ha hg (by decide) (by decide) he hpl
theorem pd_intC (hm : X.mg "int" = none) (ha : PDA X W [e] fs) (hg : Gl X "int" := by rfl) (he : starEach [e] X.env = (false, eval e X.env) :: starEach [] X.env := by rfl) : PD X W (.Call (.Name "int" p) [e] [] pos) (rCB intD fs) :=
  pd_callT call_intA opn_int PyProof.Rows.boot_int hm ha hg (by decide) (by decide) he rfl
theorem pd_strC (hm : X.mg "str" = none) (ha : PDA X W [e] fs) (hg : Gl X "str" := by rfl) (he : starEach [e] X.env = (false, eval e X.env) :: starEach [] X.env := by rfl) : PD X W (.Call (.Name "str" p) [e] [] pos) (rCB strD fs) :=
  pd_callT call_strA opn_str PyProof.Rows.boot_str hm ha hg (by decide) (by decide) he rfl
theorem pd_listC (m : Bool) (g : Good X W k) (hm : X.mg "list" = none) (ha : PDA X W [e] fs) (hg : Gl X "list" := by rfl) (he : starEach [e] X.env = (false, eval e X.env) :: starEach [] X.env := by rfl) : PD X W (.Call (.Name "list" p) [e] [] pos) (rCB (listD m) fs) :=
  pd_callT (call_listA g.calm) (opn_list m) PyProof.Rows.boot_list hm ha hg (by decide) (by decide) he rfl
theorem pd_tupC (hm : X.mg "tuple" = none) (ha : PDA X W [e] fs) (hg : Gl X "tuple" := by rfl) (he : starEach [e] X.env = (false, eval e X.env) :: starEach [] X.env := by rfl) : PD X W (.Call (.Name "tuple" p) [e] [] pos) (rCB tupD fs) :=
  pd_callT call_tuple_of opn_tup PyProof.Rows.boot_tuple hm ha hg (by decide) (by decide) he rfl
theorem pd_max2 (g : Good X W k) (hm : X.mg "max" = none) (ha : PDA X W [a, b] fs) (hg : Gl X "max" := by rfl) (he : starEach [a, b] X.env = (false, eval a X.env) :: starEach [b] X.env := by rfl) (hpl : (backTo pos (starEach [b] X.env)).any (·.1) = false := by rfl) : PD X W (.Call (.Name "max" p) [a, b] [] pos) (rCB max2D fs) :=
  pd_callB (call_max2 g.calm) opn_max2 PyProof.Rows.boot_max hm ha hg (by decide) (by decide) he hpl
theorem pd_all (g : Good X W k) (hm : X.mg "all" = none) (ha : PDA X W [e] fs) (hg : Gl X "all" := by rfl) (he : starEach [e] X.env = (false, eval e X.env) :: starEach [] X.env := by rfl) : PD X W (.Call (.Name "all" p) [e] [] pos) (rCB (allD false) fs) :=
  pd_callB (cr_all g.calm) opn_all PyProof.Rows.boot_all hm ha hg (by decide) (by decide) he rfl
theorem pd_any (g : Good X W k) (hm : X.mg "any" = none) (ha : PDA X W [e] fs) (hg : Gl X "any" := by rfl) (he : starEach [e] X.env = (false, eval e X.env) :: starEach [] X.env := by rfl) : PD X W (.Call (.Name "any" p) [e] [] pos) (rCB (allD true) fs) :=
  pd_callB (cr_any g.calm) opn_any PyProof.Rows.boot_any hm ha hg (by decide) (by decide) he rfl
theorem pd_lenP {ad : Addr} {kvs : List (Key × V)} (D : KDat X.K X.w ad kvs) (hm : X.mg "len" = none) (ha : PDA X W [e] fs) (hg : Gl X "len" := by rfl) (he : starEach [e] X.env = (false, eval e X.env) :: starEach [] X.env := by rfl) : PD X W (.Call (.Name "len" p) [e] [] pos) (rCB (onP ad fun μ => .ok (.int (kvs.length : Nat)) μ) fs) :=
  pd_callB (call_lenP D) opn_lenP PySem.boot_len hm ha hg (by decide) (by decide) he rfl
theorem pd_listP {ad : Addr} {kvs : List (Key × V)} (D : KDat X.K X.w ad kvs) (g : Good X W k) (hm : X.mg "list" = none) (ha : PDA X W [e] fs) (hg : Gl X "list" := by rfl) (he : starEach [e] X.env = (false, eval e X.env) :: starEach [] X.env := by rfl) : PD X W (.Call (.Name "list" p) [e] [] pos) (rCB (onP ad fun μ => .ok (.lst ((kvs.map (·.1)).map Key.d)) μ) fs) :=
  pd_callT (call_listP g.calm D) opn_listP PyProof.Rows.boot_list hm ha hg (by decide) (by decide) he rfl
/-- a, b, c = three values -/
def rPar3 (i j l : Nat) (fs : RA) : RS := fun δ μ => (fs δ μ).st δ fun ds μ1 => match ds with
  | [d, e, h] => .nx (((δ.set i (some d)).set j (some e)).set l (some h)) μ1
  | _ => .bad
theorem psd_par3 (i j l : Nat) {x y z : Str} {px py pz pt pt2 : Pos} {kt k2 : Nat} (hc : X.calm = true) (hN : X.N.Nodup) (ha : PDA X W [a, b, c] fs) (hij : i ≠ j := by decide) (hil : i ≠ l := by decide) (hjl : j ≠ l := by decide) (hi : X.N[i]? = some x := by rfl) (hj : X.N[j]? = some y := by rfl) (hl : X.N[l]? = some z := by rfl)
    (hx : X.env.scope.names.lookup x = some .local := by rfl) (hy : X.env.scope.names.lookup y = some .local := by rfl) (hz : X.env.scope.names.lookup z = some .local := by rfl)
    (hw : swappedStores [.Tuple [.Name x px, .Name y py, .Name z pz] kt pt] (.Tuple [a, b, c] k2 pt2) X.env = pure (some [x, y, z]) := by rfl)
    (hs : swapsWithSole [.Tuple [.Name x px, .Name y py, .Name z pz] kt pt] (.Tuple [a, b, c] k2 pt2) pos.line X.env = pure false := by rfl) :
    PSD X W (.Assign [.Tuple [.Name x px, .Name y py, .Name z pz] kt pt] (.Tuple [a, b, c] k2 pt2) pos) (rPar3 i j l fs) :=
  ps_weak (ps_par3 hc hN hi hj hl hij hil hjl hx hy hz ha hw hs) fun D σ H ⟨γ, α, F, μ, δ, w, s, q⟩ => tDA_st w s q fun ds μ1 α1 F1 H1 vs p1 e1 w1 s1 hv q1 => by
    match ds, hv, q1 with
    | [d, e, h], .cons h1 (.cons h2 (.cons h3 .nil)), q1 => exact ⟨_, _, _, rfl, q1.nx_ w1 (((s1.set i h1).set j h2).set l h3)⟩
    | [], _, q1 => exact q1.elim
    | [_], _, q1 => exact q1.elim
    | [_, _], _, q1 => exact q1.elim
    | _ :: _ :: _ :: _ :: _, _, q1 => exact q1.elim
end

/-! ### isinstance(x, C), C a class of the text -/
def isK (C : Addr) (d : D) : Option Bool := match d with
  | .ins C' _ _ => if C' = C then some true else none
  | _ => none
structure KisC (K : PySem.W.Frag) (C : Addr) : Prop where
  cl : Cls K C
  ha : PySem.W.findIn K (.ref C) "__class__" = some (some (.builtin "object.__class__"))
  hn : PySem.W.specialIn K (.builtin "object.__class__") "__get__" = some (some (.builtin "getset_descriptor.__get__"))
  ht : PySem.W.takesIn K (.builtin "object.__class__") = some true
  hm : PySem.W.mroIn K C (.type "object") = some true
theorem isiQ_K {K : PySem.W.Frag} {C : Addr} (c : KisC K C) : IsiQ K (.ref C) (isK C) := fun α F H v d b h e => by
  unfold isK at e
  cases d with
  | ins C' fs xs =>
    simp only at e
    split at e
    · rename_i hC
      subst hC
      cases e
      obtain ⟨a, dx, fv, rfl, h1, _⟩ := h
      refine ⟨_, _, .own C', .base (.ins h1 c.cl c.ha c.hn c.ht c.hm), ?_⟩
      unfold PySem.W.kitOne
      rw [if_pos (beq_self_eq_true _)]
    · cases e
  | _ => cases e
theorem pd_isK {X : Cx} {W : WX} {a b : Expr} {fs : RA} {pos p : Pos} {C : Addr} {q : D → Option Bool} (hm : X.mg "isinstance" = none) (hq : IsiQ X.K (.ref C) q) (ha : PDA X W [a, b] fs) (hg : Gl X "isinstance" := by rfl) (he : starEach [a, b] X.env = (false, eval a X.env) :: starEach [b] X.env := by rfl) (hpl : (backTo pos (starEach [b] X.env)).any (·.1) = false := by rfl) :
    PD X W (.Call (.Name "isinstance" p) [a, b] [] pos) (rCB (isiD (.ref C) q) fs) :=
  pd_callB call_isi (opn_isi hq) PyProof.Rows.boot_isinstance hm ha hg (by decide) (by decide) he hpl
end DL

/-! The data layer, n: the law's own promise. -/
namespace DL
open PySem L2
def spLaw (K : PySem.W.Frag) : Sp := fun vs H Q _ => ∃ (a : Addr) (ns : List Int), vs = [.ref a] ∧ SqL K H a (ns.map V.int) ∧ ns.length ≤ 63 ∧ ∀ H', Q (.bl true) H'
theorem wd_all {K : PySem.W.Frag} {H : Hp} : Wd K (fun _ => none) [] H H [] :=
  ⟨rfl, fun i j a h => by simp at h, Same.refl H, fun k a h => by simp at h, fun k a o h => by simp at h, fun k a o h => by simp at h, fun b o h => (nomatch h), fun a h => absurd rfl h, fun k a h => by simp at h⟩
theorem spd_of {K : PySem.W.Frag} {P : Program} {w : World} {mg : Str → Option Value} {base : Heap} {k : Nat} {f : Addr} {fd : FuncData} {ct : Ct} {ps : List Str} (F : FnOk P w K mg base (L2.CX P w) k f fd ps (spD K 1 ct))
    (m : ∀ ns : List Int, ns.length ≤ 63 → ∃ μ, ct [.frl (ns.map D.int)] [] = .ok (.bl true) μ) : FnOk P w K mg base (L2.CX P w) k f fd ps (spLaw K) :=
  F.imp fun vs H Q E ⟨a, ns, e, hS, hl, q⟩ => by
    subst e
    obtain ⟨μ, hm⟩ := m ns hl
    refine ⟨rfl, fun _ => none, [], H, [], _, wd_all, .cons (.frl hS (.ints ns)) .nil, ?_⟩
    rw [hm]
    intro α' F' H' p e w v hv
    cases hv
    exact q H'
end DL

/-! The data layer, o: == of data with dicts in it, where the answer is True. -/
namespace DL
open PySem L2
def alike (q : D → D → Bool) : List D → List D → Bool
  | [], [] => true
  | x :: xs, y :: ys => q x y && alike q xs ys
  | _, _ => false
def alikeK (q : D → D → Bool) (ls : List Key) (ys : List D) : List Key → List D → Bool
  | [], [] => true
  | k :: ks, x :: xs => (match lookD ls ys k with
    | some y => q x y
    | none => false) && alikeK q ls ys ks xs
  | _, _ => false
/-- equal, of nesting below n -/
def eqN : Nat → D → D → Bool
  | _, .non, .non => true
  | _, .bl a, .bl b => a == b
  | _, .int a, .int b => decide (a = b)
  | _, .str a, .str b => decide (a = b)
  | n + 1, .tup xs, .tup ys => alike (eqN n) xs ys
  | n + 1, .lst xs, .lst ys => alike (eqN n) xs ys
  | n + 1, .dct ks xs, .dct ls ys => decide (ks.length = ls.length) && alikeK (eqN n) ls ys ks xs
  | _, _, _ => false
section
variable {X : Cx} {pins : List (Addr × Obj)} {σ : St} {H : Hp} {s : Shared} {γ : Hp} {α : List Addr} {F : Hp} {μ : List Ob}
def Rn (K : PySem.W.Frag) (α : List Addr) (F : Hp) (n : Nat) (x y : V) : Prop := ∃ d e, Is K α F x d ∧ Is K α F y e ∧ eqN n d e = true
theorem pair_of {K : PySem.W.Frag} {n : Nat} : ∀ {vs us : List V} {xs ys : List D}, IsL K α F vs xs → IsL K α F us ys → alike (eqN n) xs ys = true → Paired (Rn K α F n) vs us
  | _, _, [], [], .nil, .nil, _ => .nil
  | _, _, x :: xs, y :: ys, .cons h t, .cons h' t', e => by
    rw [alike, Bool.and_eq_true] at e
    exact .cons ⟨x, y, h, h', e.1⟩ (pair_of t t' e.2)
  | _, _, [], _ :: _, _, _, e => by simp [alike] at e
  | _, _, _ :: _, [], _, _, e => by simp [alike] at e
theorem pairK_of {K : PySem.W.Frag} {n : Nat} {ls : List (Key × V)} {ys : List D} (l' : IsL K α F (ls.map (·.2)) ys) : ∀ {ks : List (Key × V)} {xs : List D}, IsL K α F (ks.map (·.2)) xs → alikeK (eqN n) (ls.map (·.1)) ys (ks.map (·.1)) xs = true →
    ∀ p ∈ ks, ∃ u, valV ls p.1 = some u ∧ Rn K α F n p.2 u
  | [], _, _, _ => fun p h => by cases h
  | (k, v) :: r, x :: xs, .cons h t, e => by
    rw [List.map_cons, alikeK, Bool.and_eq_true] at e
    intro p hp
    rcases List.mem_cons.mp hp with rfl | hp
    · cases hk : lookD (ls.map (·.1)) ys k with
      | none => rw [hk] at e; exact absurd e.1 Bool.false_ne_true
      | some y =>
        rw [hk] at e
        obtain ⟨u, h1, h2⟩ := look_val' l' hk
        exact ⟨u, h1, x, y, h, h2, e.1⟩
    · exact pairK_of l' t e.2 p hp
theorem eqN_cases {n : Nat} {d e : D} (q : eqN n d e = true) : (d = e ∧ (d = .non ∨ (∃ a, d = .bl a) ∨ (∃ a, d = .int a) ∨ ∃ a, d = .str a)) ∨ (∃ m xs ys, n = m + 1 ∧ d = .tup xs ∧ e = .tup ys ∧ alike (eqN m) xs ys = true) ∨
    (∃ m xs ys, n = m + 1 ∧ d = .lst xs ∧ e = .lst ys ∧ alike (eqN m) xs ys = true) ∨ ∃ m ks xs ls ys, n = m + 1 ∧ d = .dct ks xs ∧ e = .dct ls ys ∧ ks.length = ls.length ∧ alikeK (eqN m) ls ys ks xs = true := by
  cases n <;> cases d <;> cases e <;> simp_all [eqN]
  all_goals exact ⟨_, _, ⟨rfl, rfl⟩, _, _, ⟨rfl, rfl⟩, q⟩
theorem eqN_run (w : Wd X.K γ α F H μ) (I : Inv X pins σ H s) : ∀ (n : Nat) (A : Around), A.units + n < cLine → ∀ (x y : V) (v u : Value), Rn X.K α F n x y → RelV x v → RelV y u → SeqAt.EqP X.prog X.w A s v u true := by
    intro n
    induction n using Nat.strongRecOn with
    | _ n ih =>
    intro A hu x y v u ⟨d, e, hd, he, q⟩ rx ry
    have flat : ∀ (q : x = y) (f : flatB x = true), SeqAt.EqP X.prog X.w A s v u true := fun q f => by subst q; exact (eqAt_same rx ry f).eqP
    have refs : ∀ {a b : Addr}, x = .ref a → y = .ref b → (∀ (E Q : Value → Shared → Prop), Q (.bool true) s → wpAny (model X.prog X.w) A (richCompare .Eq (.ref a) (.ref b)) Q E s) → SeqAt.EqP X.prog X.w A s v u true := fun {a b} e1 e2 step => by
      subst e1 e2
      cases (show v = Value.ref a from rx)
      cases (show u = Value.ref b from ry)
      by_cases e : a = b
      · subst e
        exact (SeqAt.EqAt.same _).eqP
      · exact SeqAt.eqP_refs e step
    rcases eqN_cases q with ⟨rfl, h⟩ | ⟨n, xs, ys, rfl, rfl, rfl, q2⟩ | ⟨n, xs, ys, rfl, rfl, rfl, q2⟩ | ⟨n, ks, xs, ls, ys, rfl, rfl, rfl, q2⟩
    · rcases h with rfl | ⟨a, rfl⟩ | ⟨a, rfl⟩ | ⟨a, rfl⟩ <;> (cases hd; cases he; exact flat rfl rfl)
    ·
      cases hd with
      | tup h1 l1 =>
        cases he with
        | tup h2 l2 =>
          rename_i a vs b us
          refine refs rfl rfl fun E Q hQ => ?_
          have hp := pair_of l1 l2 q2
          obtain ⟨its, r, e, z⟩ := I.tuple (sqt_mono w.sub h1)
          obtain ⟨its2, r2, e2, z2⟩ := I.tuple (sqt_mono w.sub h2)
          have hsz : its.toArray.size = its2.toArray.size := by rw [List.size_toArray, List.size_toArray, ← r.length, ← r2.length]; exact Paired.length hp
          refine GQ.rc_tupG hsz (by omega) (fun _ s' => s' = s) e e2 (fun i h1 h2 s' q => ?_) (fun s' q => by rw [q]; exact hQ) rfl
          subst q
          have k := items_run (fun x y v u => ih n (Nat.lt_succ_self n) A.in1 (by show A.units + 1 + n < cLine; omega) x y v u) hp r r2 i (by simpa using h1) (by simpa using h2)
          have k2 := k E (fun r s2 => r = true ∧ s2 = s') ⟨rfl, rfl⟩
          simpa using k2
    ·
      cases hd with
      | lst h1 l1 =>
        cases he with
        | lst h2 l2 =>
          rename_i a vs b us
          refine refs rfl rfl fun E Q hQ => ?_
          have hp := pair_of l1 l2 q2
          obtain ⟨us, r1, p1, _⟩ := I.list (.inl (.inl (w.sub _ _ h1)))
          obtain ⟨ws, r2, p2, _⟩ := I.list (.inl (.inl (w.sub _ _ h2)))
          have hsz : us.toArray.size = ws.toArray.size := by
            rw [List.size_toArray, List.size_toArray, ← r1.length, ← r2.length]
            exact Paired.length hp
          refine SeqAt.rcP_lists (e := fun _ => true) p1.isList p2.isList hsz (by omega) (fun j h1 h2 => ?_) E Q ?_
          · have k := items_run (fun x y v u => ih n (Nat.lt_succ_self n) A.in1 (by show A.units + 1 + n < cLine; omega) x y v u) hp r1 r2 j (by simpa using h1) (by simpa using h2)
            simpa using k
          · rw [show ((List.range us.toArray.size).all fun _ => true) = true from List.all_eq_true.mpr fun _ _ => rfl]
            exact hQ
    ·
      cases hd with
      | dct h1 g1 l1 =>
        cases he with
        | dct h2 g2 l2 =>
          rename_i a kvs b lvs
          subst g1 g2
          refine refs rfl rfl fun E Q hQ => ?_
          obtain ⟨_, ya, va, ra, da⟩ := rdd_of I (fzd_mono w.sub h1).rd
          obtain ⟨_, yb, vb, rb, db⟩ := rdd_of I (fzd_mono w.sub h2).rd
          have hp := pairK_of l2 l1 q2.2
          refine PySem.W.rcP_dicts (knd := mixKind X.prog X.w) (r := true) ya yb da db (by omega) (fun _ => hits_run (fun x y v u => ih n (Nat.lt_succ_self n) A.in1 (by show A.units + 1 + n < cLine; omega) x y v u) rb ra hp) E Q ?_
          have e : va.length = vb.length := by
            rw [← ra.length, ← rb.length]
            have := q2.1
            rw [List.length_map, List.length_map] at this
            exact this
          rw [show (va.length == vb.length && true) = true from by rw [e]; simp]
          exact hQ
/-- a == b, equal data -/
def rEqN (K : PySem.W.Frag) : R2 := fun x y H Q => ∃ γ α F μ a b, Wd K γ α F H μ ∧ x = .ref a ∧ y = .ref b ∧ Rn K α F 60 x y ∧ Q (.bl true) H
theorem op_eqN (hu : X.A.units + 64 < cLine) : OpR X (compareOp .Eq) (rEqN X.K) := by
  intro pins s σ H x y v u Q I rx ry h
  obtain ⟨γ, α, F, μ, a, b, w, rfl, rfl, h, q⟩ := h
  cases (show v = Value.ref a from rx)
  cases (show u = Value.ref b from ry)
  show wpAny (model X.prog X.w) X.A (richCompare .Eq (.ref a) (.ref b)) (EP X pins σ Q) X.xe s
  obtain ⟨d, e, hd, he, q'⟩ := h
  have hQ : EP X pins σ Q (.bool true) s := ⟨.bl true, H, I, rfl, q⟩
  have run := fun x y v u => eqN_run w I 59 X.A.in1 (by show X.A.units + 1 + 59 < cLine; omega) x y v u
  cases hd with
  | tup h1 l1 =>
    cases he with
    | tup h2 l2 =>
      rw [eqN] at q'
      have hp := pair_of l1 l2 q'
      obtain ⟨its, r, e, z⟩ := I.tuple (sqt_mono w.sub h1)
      obtain ⟨its2, r2, e2, z2⟩ := I.tuple (sqt_mono w.sub h2)
      have hsz : its.toArray.size = its2.toArray.size := by rw [List.size_toArray, List.size_toArray, ← r.length, ← r2.length]; exact Paired.length hp
      refine GQ.rc_tupG hsz (by omega) (fun _ s' => s' = s) e e2 (fun i h1 h2 s' q => ?_) (fun s' q => by rw [q]; exact hQ) rfl
      subst q
      have k2 := items_run run hp r r2 i (by simpa using h1) (by simpa using h2) X.xe (fun r s2 => r = true ∧ s2 = s') ⟨rfl, rfl⟩
      simpa using k2
    | _ => cases q'
  | lst h1 l1 =>
    cases he with
    | lst h2 l2 =>
      rw [eqN] at q'
      have hp := pair_of l1 l2 q'
      obtain ⟨us, r1, p1, _⟩ := I.list (.inl (.inl (w.sub _ _ h1)))
      obtain ⟨ws, r2, p2, _⟩ := I.list (.inl (.inl (w.sub _ _ h2)))
      have hsz : us.toArray.size = ws.toArray.size := by
        rw [List.size_toArray, List.size_toArray, ← r1.length, ← r2.length]
        exact Paired.length hp
      refine SeqAt.rcP_lists (e := fun _ => true) p1.isList p2.isList hsz (by omega) (fun j h1 h2 => ?_) _ _ ?_
      · have k := items_run run hp r1 r2 j (by simpa using h1) (by simpa using h2)
        simpa using k
      · rw [show ((List.range us.toArray.size).all fun _ => true) = true from List.all_eq_true.mpr fun _ _ => rfl]
        exact hQ
    | _ => cases q'
  | dct h1 g1 l1 =>
    cases he with
    | dct h2 g2 l2 =>
      rw [eqN, Bool.and_eq_true, decide_eq_true_iff] at q'
      subst g1 g2
      obtain ⟨_, ya, va, ra, da⟩ := rdd_of I (fzd_mono w.sub h1).rd
      obtain ⟨_, yb, vb, rb, db⟩ := rdd_of I (fzd_mono w.sub h2).rd
      have hp := pairK_of l2 l1 q'.2
      refine PySem.W.rcP_dicts (knd := mixKind X.prog X.w) (r := true) ya yb da db (by omega) (fun _ => hits_run run rb ra hp) _ _ ?_
      have e : va.length = vb.length := by
        rw [← ra.length, ← rb.length]
        have := q'.1
        rw [List.length_map, List.length_map] at this
        exact this
      rw [show (va.length == vb.length && true) = true from by rw [e]; simp]
      exact hQ
    | _ => cases q'
  | _ => cases e <;> cases q'
end
def eqTD (d e : D) (μ : List Ob) : R D := match d, e with
  | .tup xs, .tup ys => if eqN 60 (.tup xs) (.tup ys) then .ok (.bl true) μ else .bad
  | _, _ => .bad
theorem op2_eqT {K : PySem.W.Frag} : Op2 K (rEqN K) eqTD := fun γ α F H μ x y d e Q E w hx hy q => by
  unfold eqTD at q
  split at q
  · split at q
    · rename_i h
      have w0 := w
      cases hx with
      | tup h1 l1 =>
        cases hy with
        | tup h2 l2 => exact ⟨γ, α, F, μ, _, _, w0, rfl, rfl, ⟨_, _, .tup h1 l1, .tup h2 l2, h⟩, fin_ok w0 (.bl true) q⟩
    · exact q.elim
  · exact q.elim
section
variable {X : Cx} {W : WX} {a b : Expr} {fa fb : RE} {pos : Pos} {k : Nat}
theorem pd_eqT (g : Good X W k) (ha : PD X W a fa) (hb : PD X W b fb) (hm : behindInMarks .Eq b = false := by rfl) : PD X W (.Compare a [.Eq] [b] pos) (rBin eqTD fa fb) := pd_cmp (op_eqN (by have := g.hu; omega)) op2_eqT hm ha hb
theorem pdt_eqT (g : Good X W k) (ha : PD X W a fa) (hb : PD X W b fb) (hm : behindInMarks .Eq b = false := by rfl) : PDT X W (.Compare a [.Eq] [b] pos) (rT (rBin eqTD fa fb)) := pdt_cmp (op_eqN (by have := g.hu; omega)) op2_eqT hm ha hb
end
end DL

/-! The data layer, p: readings applied (simp). -/
namespace DL
open PySem L2
@[simp] theorem s_rVar (i : Nat) (δ : Sl) (μ : List Ob) : rVar i δ μ = (match δ[i]? with
    | some (some d) => .ok d μ
    | _ => .bad) := rfl
@[simp] theorem s_rC (d : D) (δ : Sl) (μ : List Ob) : rC d δ μ = (.ok d μ) := rfl
@[simp] theorem s_rBin (g : D → D → List Ob → R D) (fa fb : RE) (δ : Sl) (μ : List Ob) : rBin g fa fb δ μ = ((fa δ μ).bind fun d μ1 => (fb δ μ1).bind fun e μ2 => g d e μ2) := rfl
@[simp] theorem s_rT (f : RE) (δ : Sl) (μ : List Ob) : rT f δ μ = ((f δ μ).bind fun d μ1 => match d with
    | .bl b => .ok b μ1
    | _ => .bad) := rfl
@[simp] theorem s_rChain (g g' : D → D → List Ob → R D) (fa fb fc : RE) (δ : Sl) (μ : List Ob) : rChain g g' fa fb fc δ μ = ((fa δ μ).bind fun d μ1 => (fb δ μ1).bind fun e μ2 => (g d e μ2).bind fun z μ3 => match z with
    | .bl true => (fc δ μ3).bind fun k μ4 => g' e k μ4
    | .bl false => .ok (.bl false) μ3
    | _ => .bad) := rfl
@[simp] theorem s_rAndT (t u : RT) (δ : Sl) (μ : List Ob) : rAndT t u δ μ = ((t δ μ).bind fun k μ1 => match k with
    | true => u δ μ1
    | false => .ok false μ1) := rfl
@[simp] theorem s_rOrT (t u : RT) (δ : Sl) (μ : List Ob) : rOrT t u δ μ = ((t δ μ).bind fun k μ1 => match k with
    | true => .ok true μ1
    | false => u δ μ1) := rfl
@[simp] theorem s_rNotT (t : RT) (δ : Sl) (μ : List Ob) : rNotT t δ μ = ((t δ μ).bind fun k μ1 => .ok (!k) μ1) := rfl
@[simp] theorem s_rAndV (fa fb : RE) (δ : Sl) (μ : List Ob) : rAndV fa fb δ μ = ((fa δ μ).bind fun d μ1 => match d with
    | .bl true => fb δ μ1
    | .bl false => .ok (.bl false) μ1
    | _ => .bad) := rfl
@[simp] theorem s_rOrV (fa fb : RE) (δ : Sl) (μ : List Ob) : rOrV fa fb δ μ = ((fa δ μ).bind fun d μ1 => match d with
    | .bl true => .ok (.bl true) μ1
    | .bl false => fb δ μ1
    | _ => .bad) := rfl
@[simp] theorem s_rNotV (fa : RE) (δ : Sl) (μ : List Ob) : rNotV fa δ μ = ((fa δ μ).bind fun d μ1 => match d with
    | .bl k => .ok (.bl (!k)) μ1
    | _ => .bad) := rfl
@[simp] theorem s_rIf (t : RT) (fa fb : RE) (δ : Sl) (μ : List Ob) : rIf t fa fb δ μ = ((t δ μ).bind fun k μ1 => match k with
    | true => fa δ μ1
    | false => fb δ μ1) := rfl
@[simp] theorem s_rNil (δ : Sl) (μ : List Ob) : rNil  δ μ = (.ok [] μ) := rfl
@[simp] theorem s_rCons (fa : RE) (fs : RA) (δ : Sl) (μ : List Ob) : rCons fa fs δ μ = ((fa δ μ).bind fun d μ1 => (fs δ μ1).bind fun ds μ2 => .ok (d :: ds) μ2) := rfl
@[simp] theorem s_rTup (fs : RA) (δ : Sl) (μ : List Ob) : rTup fs δ μ = ((fs δ μ).bind fun ds μ1 => if ds.length ≤ 16777216 then .ok (.tup ds) μ1 else .bad) := rfl
@[simp] theorem s_rLst (fs : RA) (δ : Sl) (μ : List Ob) : rLst fs δ μ = ((fs δ μ).bind fun ds μ1 => if ds.length ≤ 16777216 then .ok (.lst ds) μ1 else .bad) := rfl
@[simp] theorem s_rLstM (fs : RA) (δ : Sl) (μ : List Ob) : rLstM fs δ μ = ((fs δ μ).bind fun ds μ1 => if ds.length ≤ 16777216 then .ok (.loc μ1.length) (μ1 ++ [.lst ds]) else .bad) := rfl
@[simp] theorem s_rNone (δ : Sl) (μ : List Ob) : rNone  δ μ = (.ok none μ) := rfl
@[simp] theorem s_rSome (f : RE) (δ : Sl) (μ : List Ob) : rSome f δ μ = ((f δ μ).bind fun d μ1 => match d with
    | .int i => .ok (some i) μ1
    | _ => .bad) := rfl
@[simp] theorem s_rSlice (fa : RE) (fl fh : RO) (δ : Sl) (μ : List Ob) : rSlice fa fl fh δ μ = ((fa δ μ).bind fun d μ1 => (fl δ μ1).bind fun lo μ2 => (fh δ μ2).bind fun hi μ3 => sliceD d lo hi μ3) := rfl
@[simp] theorem s_rSeq (g h : RS) (δ : Sl) (μ : List Ob) : rSeq g h δ μ = (match g δ μ with
    | .nx δ1 μ1 => h δ1 μ1
    | r => r) := rfl
@[simp] theorem s_rDrop (f : RE) (δ : Sl) (μ : List Ob) : rDrop f δ μ = ((f δ μ).st δ fun _ μ1 => .nx δ μ1) := rfl
@[simp] theorem s_rRet (f : RE) (δ : Sl) (μ : List Ob) : rRet f δ μ = ((f δ μ).st δ fun d μ1 => .rt d μ1) := rfl
@[simp] theorem s_rIfS (ft : RT) (g h : RS) (δ : Sl) (μ : List Ob) : rIfS ft g h δ μ = ((ft δ μ).st δ fun k μ1 => match k with
    | true => g δ μ1
    | false => h δ μ1) := rfl
@[simp] theorem s_rSet (i : Nat) (f : RE) (δ : Sl) (μ : List Ob) : rSet i f δ μ = ((f δ μ).st δ fun d μ1 => .nx (δ.set i (some d)) μ1) := rfl
@[simp] theorem s_rAsg (t : Tg) (f : RE) (δ : Sl) (μ : List Ob) : rAsg t f δ μ = ((f δ μ).st δ fun d μ1 => match t.set d δ with
    | some δ1 => .nx δ1 μ1
    | none => .bad) := rfl
@[simp] theorem s_rPar (i j : Nat) (fs : RA) (δ : Sl) (μ : List Ob) : rPar i j fs δ μ = ((fs δ μ).st δ fun ds μ1 => match ds with
    | [d, e] => .nx ((δ.set i (some d)).set j (some e)) μ1
    | _ => .bad) := rfl
@[simp] theorem s_rAug (i : Nat) (g : Int → Int → Int) (f : RE) (δ : Sl) (μ : List Ob) : rAug i g f δ μ = (match δ[i]? with
    | some (some (.int a)) => (f δ μ).st δ fun d μ1 => match d with
      | .int b => .nx (δ.set i (some (.int (g a b)))) μ1
      | _ => .bad
    | _ => .bad) := rfl
@[simp] theorem s_rItems (f : RE) (δ : Sl) (μ : List Ob) : rItems f δ μ = ((f δ μ).bind fun d μ1 => match itemsD d with
    | some xs => .ok xs μ1
    | none => .bad) := rfl
@[simp] theorem s_rRange1 (fs : RA) (δ : Sl) (μ : List Ob) : rRange1 fs δ μ = ((fs δ μ).bind fun ds μ1 => match ds with
    | [.int j] => if -(2 ^ 62) ≤ j ∧ j < 2 ^ 62 then .ok (upTo 0 j.toNat) μ1 else .bad
    | _ => .bad) := rfl
@[simp] theorem s_rRange2 (fs : RA) (δ : Sl) (μ : List Ob) : rRange2 fs δ μ = ((fs δ μ).bind fun ds μ1 => match ds with
    | [.int i, .int j] => if -(2 ^ 62) ≤ i ∧ i < 2 ^ 62 ∧ -(2 ^ 62) ≤ j ∧ j < 2 ^ 62 then .ok (upTo i (j - i).toNat) μ1 else .bad
    | _ => .bad) := rfl
@[simp] theorem s_rItemsM (f : RE) (δ : Sl) (μ : List Ob) : rItemsM f δ μ = ((f δ μ).bind fun d μ1 => match d with
    | .dct ks xs => .ok ((ks.zip xs).map fun q => D.tup [Key.d q.1, q.2]) μ1
    | _ => .bad) := rfl
@[simp] theorem s_rFor (fi : RA) (t : Tg) (body : RS) (δ : Sl) (μ : List Ob) : rFor fi t body δ μ = ((fi δ μ).st δ fun ds μ1 => forL t body ds δ μ1) := rfl
@[simp] theorem s_rYes (δ : Sl) (μ : List Ob) : rYes  δ μ = (.ok true μ) := rfl
@[simp] theorem s_rLc (fi : RA) (t : Tg) (vs : List Nat) (ft : RT) (fe : RE) (δ : Sl) (μ : List Ob) : rLc fi t vs ft fe δ μ = ((fi δ μ).bind fun ds μ1 => (compL t vs ft fe ds δ μ1 []).bind fun ys μ2 => .ok (.lst ys) μ2) := rfl
@[simp] theorem s_rCall (n : Nat) (ct : Ct) (fs : RA) (δ : Sl) (μ : List Ob) : rCall n ct fs δ μ = ((fs δ μ).bind fun ds μ1 => if ds.length = n then ct ds μ1 else .bad) := rfl
@[simp] theorem s_rCB (g : List D → List Ob → R D) (fs : RA) (δ : Sl) (μ : List Ob) : rCB g fs δ μ = ((fs δ μ).bind g) := rfl
@[simp] theorem s_gNm (i : Nat) (d : D) (δ : Sl) (μ : List Ob) : gNm i d δ μ = (.nx (δ.set i (some d)) μ) := rfl
@[simp] theorem s_gSt (fo fi : RE) (d : D) (δ : Sl) (μ : List Ob) : gSt fo fi d δ μ = ((fo δ μ).st δ fun o μ1 => (fi δ μ1).st δ fun i μ2 => (storeD o i d μ2).st δ fun _ μ3 => .nx δ μ3) := rfl
@[simp] theorem s_gNil (ds : List D) (δ : Sl) (μ : List Ob) : gNil  ds δ μ = (match ds with
    | [] => .nx δ μ
    | _ => .bad) := rfl
@[simp] theorem s_gCons (g : D → RS) (gs : List D → RS) (ds : List D) (δ : Sl) (μ : List Ob) : gCons g gs ds δ μ = (match ds with
    | d :: r => rSeq (g d) (gs r) δ μ
    | [] => .bad) := rfl
@[simp] theorem s_gTp (n : Nat) (gs : List D → RS) (d : D) (δ : Sl) (μ : List Ob) : gTp n gs d δ μ = (match d with
    | .tup ds => if ds.length = n then gs ds δ μ else .bad
    | _ => .bad) := rfl
@[simp] theorem s_rAsgD (g : D → RS) (f : RE) (δ : Sl) (μ : List Ob) : rAsgD g f δ μ = ((f δ μ).st δ fun d μ1 => match g d δ μ1 with
    | .nx δ1 μ2 => .nx δ1 μ2
    | .exc x δ1 μ2 => .exc x δ1 μ2
    | _ => .bad) := rfl
@[simp] theorem s_rMt (c : D → Bool) (m : D → List D → List Ob → R D) (fo : RE) (fs : RA) (δ : Sl) (μ : List Ob) : rMt c m fo fs δ μ = ((fo δ μ).bind fun d μ1 => if c (d.view μ1) then (fs δ μ1).bind fun ds μ2 => m d ds μ2 else .bad) := rfl
@[simp] theorem s_rDnew (δ : Sl) (μ : List Ob) : rDnew  δ μ = (.ok (.loc μ.length) (μ ++ [.dct [] []])) := rfl
@[simp] theorem s_rFrz (f : RE) (δ : Sl) (μ : List Ob) : rFrz f δ μ = ((f δ μ).bind fun d μ1 => match d with
    | .loc k => match μ1[k]? with
      | some (.dct ks xs) => .ok (.dct ks xs) (μ1.set k .dead)
      | _ => .bad
    | _ => .bad) := rfl
@[simp] theorem s_rStar (f : RE) (fs : RA) (δ : Sl) (μ : List Ob) : rStar f fs δ μ = ((f δ μ).bind fun d μ1 => match d.view μ1 with
    | .lst xs => (fs δ μ1).bind fun ds μ2 => .ok (xs ++ ds) μ2
    | .tup xs => (fs δ μ1).bind fun ds μ2 => .ok (xs ++ ds) μ2
    | _ => .bad) := rfl
@[simp] theorem s_rFld (C : Addr) (f : Str) (fe : RE) (δ : Sl) (μ : List Ob) : rFld C f fe δ μ = ((fe δ μ).bind fun d μ1 => fldD C f d μ1) := rfl
@[simp] theorem s_rSetF (C : Addr) (f : Str) (fo fv : RE) (δ : Sl) (μ : List Ob) : rSetF C f fo fv δ μ = ((fv δ μ).st δ fun d μ1 => (fo δ μ1).st δ fun o μ2 => (stFld C f o d μ2).st δ fun _ μ3 => .nx δ μ3) := rfl
@[simp] theorem s_rMake (C : Addr) (n : Nat) (ct : Ct) (fs : RA) (δ : Sl) (μ : List Ob) : rMake C n ct fs δ μ = ((fs δ μ).bind fun ds μ1 => if ds.length = n then (match ct (.loc μ1.length :: ds) (μ1 ++ [.ins C [] []]) with
    | .ok .non μ2 => (match μ2[μ1.length]? with
      | some (.ins C' fs xs) => .ok (.ins C' fs xs) (μ2.set μ1.length .dead)
      | _ => .bad)
    | _ => .bad)
    else .bad) := rfl
@[simp] theorem s_rP (a : Addr) (ds : List D) (f : RE) (δ : Sl) (μ : List Ob) : rP a ds f δ μ = ((f δ μ).bind fun d μ1 => match d with
    | .vv (.ref b) => if b = a then .ok ds μ1 else .bad
    | _ => .bad) := rfl
@[simp] theorem s_rDc (fi : RA) (t : Tg) (vs : List Nat) (ft : RT) (fk fe : RE) (δ : Sl) (μ : List Ob) : rDc fi t vs ft fk fe δ μ = ((fi δ μ).bind fun ds μ1 => (dcL t vs ft fk fe ds δ μ1 [] []).bind fun p μ2 => .ok (.dct p.1 p.2) μ2) := rfl
@[simp] theorem s_rPar3 (i j l : Nat) (fs : RA) (δ : Sl) (μ : List Ob) : rPar3 i j l fs δ μ = ((fs δ μ).st δ fun ds μ1 => match ds with
    | [d, e, h] => .nx (((δ.set i (some d)).set j (some e)).set l (some h)) μ1
    | _ => .bad) := rfl
end DL

/-! The data layer, q: operations on known looks (simp). -/
namespace DL
open PySem L2
def lview (k : Nat) : Option Ob → D
  | some (.lst xs) => .lst xs
  | some (.dct ks xs) => .dct ks xs
  | some (.ins C fs xs) => .ins C fs xs
  | _ => .loc k
section
variable {μ : List Ob} {k : Nat} {xs ys : List D} {ks : List Key} {C : Addr} {fs : List Str} {d e x y z : D} {i j : Int} {b : Bool} {s t : Str} {ds : List D}
@[simp] theorem lv_loc : (D.loc k).view μ = lview k (μ[k]?) := by
  rw [view_loc]
  unfold lview
  cases μ[k]? with
  | none => rfl
  | some o => cases o <;> rfl
@[simp] theorem lv_lst : lview k (some (.lst xs)) = .lst xs := rfl
@[simp] theorem lv_dct : lview k (some (.dct ks xs)) = .dct ks xs := rfl
@[simp] theorem lv_ins : lview k (some (.ins C fs xs)) = .ins C fs xs := rfl
@[simp] theorem vw_int : (D.int i).view μ = .int i := rfl
@[simp] theorem vw_bl : (D.bl b).view μ = .bl b := rfl
@[simp] theorem vw_str : (D.str s).view μ = .str s := rfl
@[simp] theorem vw_non : D.non.view μ = .non := rfl
@[simp] theorem vw_tup : (D.tup xs).view μ = .tup xs := rfl
@[simp] theorem vw_lst : (D.lst xs).view μ = .lst xs := rfl
@[simp] theorem vw_frl : (D.frl xs).view μ = .frl xs := rfl
@[simp] theorem vw_dct : (D.dct ks xs).view μ = .dct ks xs := rfl
@[simp] theorem vw_ins : (D.ins C fs xs).view μ = .ins C fs xs := rfl
@[simp] theorem vw_vv {v : V} : (D.vv v).view μ = .vv v := rfl
def optR (o : Option D) (μ : List Ob) : R D := match o with
  | some x => .ok x μ
  | none => .bad
@[simp] theorem optR_some : optR (some x) μ = .ok x μ := rfl
/-! d[e] -/
def getV (d e : D) (μ : List Ob) : R D := match d with
  | .lst xs => match e with
    | .int i => optR (atI xs i) μ
    | _ => .bad
  | .tup xs => match e with
    | .int i => optR (atI xs i) μ
    | _ => .bad
  | .dct ks xs => match e.key with
    | some k => optR (lookD ks xs k) μ
    | none => .bad
  | _ => .bad
@[simp] theorem getD_eq : getD d e μ = getV (d.view μ) e μ := by
  unfold getD getV optR
  cases d.view μ <;> rfl
@[simp] theorem getV_lst : getV (.lst xs) (.int i) μ = optR (atI xs i) μ := rfl
@[simp] theorem getV_tup : getV (.tup xs) (.int i) μ = optR (atI xs i) μ := rfl
@[simp] theorem getV_str : getV (.dct ks xs) (.str s) μ = optR (lookD ks xs (.inr s)) μ := rfl
@[simp] theorem getV_int : getV (.dct ks xs) (.int i) μ = optR (lookD ks xs (.inl i)) μ := rfl
@[simp] theorem atI_0 : atI (x :: xs) 0 = some x := by simp [atI, ixN]
@[simp] theorem atI_1 : atI (x :: y :: xs) 1 = some y := by
  have h : (1 : Int) < ((x :: y :: xs).length : Int) := by simp only [List.length_cons]; omega
  unfold atI ixN
  rw [if_pos (by decide), if_pos h]
  rfl
@[simp] theorem atI_2 : atI (x :: y :: z :: xs) 2 = some z := by
  have h : (2 : Int) < ((x :: y :: z :: xs).length : Int) := by simp only [List.length_cons]; omega
  unfold atI ixN
  rw [if_pos (by decide), if_pos h]
  rfl
theorem atI_lt {n : Nat} (h : n < xs.length) : atI xs (n : Int) = some xs[n] := by
  unfold atI ixN
  rw [if_pos (by omega), if_pos (by omega)]
  simp [h]
theorem atI_in (h0 : 0 ≤ i) (h1 : i < xs.length) : ∃ x, atI xs i = some x ∧ xs[i.toNat]? = some x := by
  unfold atI ixN
  rw [if_pos h0, if_pos h1]
  have h : i.toNat < xs.length := by omega
  exact ⟨xs[i.toNat], by simp [h], by simp [h]⟩
theorem ixN_in {n : Nat} (h0 : 0 ≤ i) (h1 : i < n) : ixN n i = some i.toNat := by
  unfold ixN
  rw [if_pos h0, if_pos h1]
/-! + and the ints -/
def addV (d e : D) (μ : List Ob) : R D := match d, e with
  | .int i, .int j => .ok (.int (i + j)) μ
  | .str x, .str y => if x.length + y.length ≤ 16777216 then .ok (.str (x ++ y)) μ else .bad
  | .lst xs, .lst ys => if xs.length + ys.length ≤ 16777216 then .ok (.lst (xs ++ ys)) μ else .bad
  | .tup xs, .tup ys => if xs.length + ys.length ≤ 16777216 then .ok (.tup (xs ++ ys)) μ else .bad
  | _, _ => .bad
@[simp] theorem addD_eq : addD d e μ = addV (d.view μ) (e.view μ) μ := by
  unfold addD addV
  rfl
@[simp] theorem addV_int : addV (.int i) (.int j) μ = .ok (.int (i + j)) μ := rfl
@[simp] theorem addV_str : addV (.str s) (.str t) μ = if s.length + t.length ≤ 16777216 then .ok (.str (s ++ t)) μ else .bad := rfl
@[simp] theorem addV_lst : addV (.lst xs) (.lst ys) μ = if xs.length + ys.length ≤ 16777216 then .ok (.lst (xs ++ ys)) μ else .bad := rfl
@[simp] theorem intI_ii {C : Int → Int → Bool} {g : Int → Int → Int} : intI C g (.int i) (.int j) μ = if C i j then .ok (.int (g i j)) μ else .bad := rfl
@[simp] theorem intI0_ii {g : Int → Int → Int} : intI0 g (.int i) (.int j) μ = .ok (.int (g i j)) μ := rfl
@[simp] theorem intB_ii {g : Int → Int → Bool} : intB g (.int i) (.int j) μ = .ok (.bl (g i j)) μ := rfl
@[simp] theorem mulC_r (h : -18446744073709551616 < j ∧ j < 18446744073709551616) : mulC i j = true := by
  unfold mulC
  rw [Bool.or_eq_true]
  exact .inr (by rw [Bool.and_eq_true, decide_eq_true_iff, decide_eq_true_iff]; exact h)
/-! built-ins -/
@[simp] theorem intD_int : intD [.int i] μ = .ok (.int i) μ := rfl
@[simp] theorem max2D_ii : max2D [.int i, .int j] μ = .ok (.int (if j > i then j else i)) μ := rfl
def lenV (d : D) (μ : List Ob) : R D := match d with
  | .str z => if z.length ≤ 16777216 then .ok (.int (z.length : Nat)) μ else .bad
  | .lst xs => .ok (.int (xs.length : Nat)) μ
  | .frl xs => .ok (.int (xs.length : Nat)) μ
  | .tup xs => .ok (.int (xs.length : Nat)) μ
  | .dct _ xs => .ok (.int (xs.length : Nat)) μ
  | _ => .bad
@[simp] theorem lenD_eq : lenD [d] μ = lenV (d.view μ) μ := by unfold lenD lenV; rfl
@[simp] theorem lenV_lst : lenV (.lst xs) μ = .ok (.int (xs.length : Nat)) μ := rfl
@[simp] theorem lenV_frl : lenV (.frl xs) μ = .ok (.int (xs.length : Nat)) μ := rfl
@[simp] theorem lenV_tup : lenV (.tup xs) μ = .ok (.int (xs.length : Nat)) μ := rfl
@[simp] theorem lenV_dct : lenV (.dct ks xs) μ = .ok (.int (xs.length : Nat)) μ := rfl
@[simp] theorem listD_eq {m : Bool} : listD m [d] μ = match elsD (d.view μ) with
    | some xs => if m then .ok (.loc μ.length) (μ ++ [.lst xs]) else .ok (.lst xs) μ
    | none => .bad := rfl
@[simp] theorem els_lst : elsD (.lst xs) = some xs := rfl
@[simp] theorem els_frl : elsD (.frl xs) = some xs := rfl
@[simp] theorem els_tup : elsD (.tup xs) = some xs := rfl
def tupV (d : D) (μ : List Ob) : R D := match d with
  | .lst xs => .ok (.tup xs) μ
  | .tup xs => .ok (.tup xs) μ
  | _ => .bad
@[simp] theorem tupD_eq : tupD [d] μ = tupV (d.view μ) μ := rfl
@[simp] theorem tupV_lst : tupV (.lst xs) μ = .ok (.tup xs) μ := rfl
@[simp] theorem tupV_tup : tupV (.tup xs) μ = .ok (.tup xs) μ := rfl
def sliceV (d : D) (lo hi : Option Int) (μ : List Ob) : R D := match d with
  | .lst xs => .ok (.lst (cutL xs lo hi)) μ
  | .tup xs => .ok (.tup (cutL xs lo hi)) μ
  | _ => .bad
@[simp] theorem sliceD_eq {lo hi : Option Int} : sliceD d lo hi μ = sliceV (d.view μ) lo hi μ := rfl
@[simp] theorem sliceV_lst {lo hi : Option Int} : sliceV (.lst xs) lo hi μ = .ok (.lst (cutL xs lo hi)) μ := rfl
/-! in -/
@[simp] theorem inD_lst {neg : Bool} : inD neg d (.lst xs) μ = if (d.okd 60 && okdL 60 xs) = true then .ok (.bl (if neg = true then !xs.any fun z => z.eqb d else xs.any fun z => z.eqb d)) μ else .bad := rfl
@[simp] theorem inD_tup {neg : Bool} : inD neg d (.tup xs) μ = if (d.okd 60 && okdL 60 xs) = true then .ok (.bl (if neg = true then !xs.any fun z => z.eqb d else xs.any fun z => z.eqb d)) μ else .bad := rfl
@[simp] theorem inD_dct {neg : Bool} : inD neg (.str s) (.dct ks xs) μ = .ok (.bl (if neg = true then !(lookD ks xs (.inr s)).isSome else (lookD ks xs (.inr s)).isSome)) μ := rfl
/-! what the store says -/
theorem at_set {n m : Nat} {o : Ob} (h : n < μ.length) : (μ.set n o)[m]? = if n = m then some o else μ[m]? := by
  by_cases e : n = m
  · subst e
    rw [if_pos rfl, List.getElem?_set_self h]
  · rw [if_neg e, List.getElem?_set_ne e]
theorem lt_of {n : Nat} {o : Ob} (h : μ[n]? = some o) : n < μ.length := (List.getElem?_eq_some_iff.mp h).1
end
end DL

/-! The data layer, r: own exceptions whose __init__ says super().__init__(text). -/
namespace DL
open PySem L2 NdefX

/-- what the written part says of an own exception's __init__ at fI, F its words -/
structure XiK (P : Program) (K : PySem.W.Frag) (mg : Str → Option Value) (C fI : Addr) (F : NF) : Prop where
  oex : OexC K C
  lk : ∃ oc od osl dV kV doc pm an ctv, K.lookup fI = some ⟨oc, od, .func (PySem.W.fnX F.name F.qual F.params F.body F.scope F.cl dV kV doc pm an (.ref F.c) ctv), osl⟩
  cl : ∃ cc, F.cl = [(("__class__" : Str), cc)] ∧ ∃ a b c, K.lookup cc = some ⟨a, b, .cell (some (.ref C)), c⟩
  hcd : PySem.W.codeIn K (.ref F.c) F.qual = true
  file : ∃ ccl cdd vs ccs file tf, K.lookup F.c = some ⟨ccl, cdd, .fields vs, ccs⟩ ∧ vs[2]? = some (.str file tf) ∧ ((P.main.file : Str) == file) = true
  sup : PySem.W.ks_superIn K C C "__init__" = some (some (.builtin "ValueError.__init__"))
  tp : PySem.W.nsIn K PySem.cStatics "thirdparty.any" = some none
  smro : PySem.W.mroIn K C (.ref C) = some true
  sVE : PySem.W.subIn K (.ref C) (.type "ValueError") = some true
  top : (P.main.scope.names.lookup ("super" : Str)).isSome = false
  msup : mg "super" = none

section
variable {CX : CXT} {P : Program} {w : World} {K : PySem.W.Frag} {mg : Str → Option Value} {base : Heap} {N ps : List Str} {F : NF} {f C : Addr} {k : Nat} {sp : Sp} {s0 : Str} {txt : Str} {p0 p1 p2 p3 p4 p5 : Pos} {j : Nat} {rest : List Stmt} {ar : Arg} {more : List Arg}
/-- the word super().__init__(text) is run: nothing of it is told -/
theorem xi_super {A : Around} {outer : List Env} {s : Shared} {H : Hp} {E : XK} {σ : L2.St} {e : Addr} {s1 : Shared} {Q : Flow → Shared → Prop} (T : XiK P K mg C f F)
    (hp : (F.params.posonlyargs ++ F.params.args).head? = some ar) (h0 : N[0]? = some ar.arg) (hs : F.scope.names.lookup ("super" : Str) = some .globalImplicit) (hc : F.scope.names.lookup ("__class__" : Str) = some .free) (hl0 : F.scope.names.lookup ar.arg = some .local)
    (I : Inv (ncx CX P w K mg base N F f A outer s H E) [] σ H s1) (hσ : σ[0]? = some (some (.ref e))) (ea : H e = some (exo e C none))
    {pl : Sem Bool} (hev : ∀ L : Addr, eval (.Call (.Attribute (.Call (.Name "super" p0) [] [] p1) "__init__" p2) [.Constant (.str txt) j p3] [] p4) (envF F f L) = (do
      let ov ← attributeBase (.Call (.Name "super" p0) [] [] p1) "__init__" (envF F f L) (eval (.Call (.Name "super" p0) [] [] p1) (envF F f L))
      standAt p2.atName
      let (f', first) ← holding [ov] (getMethod ov "__init__" pl)
      callWith p4 f' first (backTo p4 (starEach [.Constant (.str txt) j p3] (envF F f L))) []))
    (h : ∀ s', Inv (ncx CX P w K mg base N F f A outer s H E) [] σ H s' → Q .next s') :
    _root_.PySem.wpAt (model P w) (A.deeper (envF F f s.heap.objs.size)) (.func F.body (envF F f s.heap.objs.size))
      (exec (.Expr (.Call (.Attribute (.Call (.Name "super" p0) [] [] p1) "__init__" p2) [.Constant (.str txt) j p3] [] p4) p5) (envF F f s.heap.objs.size)) Q (ncx CX P w K mg base N F f A outer s H E).xe s1 := by
  obtain ⟨cc, hcl, ca, cb, ccx, hcc⟩ := T.cl
  obtain ⟨oc, od, osl, dV, kV, doc, pm, an, ctv, lk⟩ := T.lk
  obtain ⟨ccl, cdd, vs, ccs, file, tf, hF, hv2, hfile⟩ := T.file
  obtain ⟨nm, q, Nn, bs, bm, sn, sub, ab, col, dd, k0, k1, k2, k3, k5, hC, hbm⟩ := T.oex.cls
  have hD : PySem.W.clsIn K C = some { name := nm, bases := bs, mro := .ref C :: bm, ns := Nn, qualname := q, hasDict := true, slotNames := sn, subclasses := sub, abstract := ab, collection := col, hasDel := false } := by unfold PySem.W.clsIn; rw [hC] <;> rfl
  have X := I.kIn
  obtain ⟨t1, ho⟩ := exo_at I.hok ea
  have ne : e ≠ C := fun z => by
    have y := X _ _ hC
    rw [← z, ho] at y
    cases y
  have hk : (envF F f s.heap.objs.size).scope.kind = .function := I.ok.kind
  have isE : ∀ {h' : Heap} {t2 : Addr}, K.In h' → h'.get? e = some ({ cls := .ref C, dict := none, data := .fields #[.ref t2, .none, .none, .none, .bool false, .none] } : Obj) → PySem.W.InstAt h' e _ C none := fun _ y => ⟨y, rfl, rfl, trivial⟩
  refine PySem.ks_wpAt_Expr_any ?_ I.quiet
  refine PySem.ks_wpAt_MethodCall (pl := pl) ?_ (hev _)
  refine PySem.ks_wpAt_super_base (env := envF F f s.heap.objs.size) hs hc (by decide) rfl (X _ _ lk) rfl hp rfl (X _ _ hF) rfl hv2 hfile T.top ?_
  obtain ⟨mb, hb1, hb2⟩ := I.mod.blt
  refine PySem.W.ks_loadName_global hk hs (Calls.loadGlobal_builtin (env := envF F f s.heap.objs.size) (I.mod.glob.keeps I.bk) T.msup (hb1.keeps I.bk) ((hb2 _ (by decide)).trans (by first | rfl | kernel_rfl | decide +kernel)) ⟨rfl, ?_⟩)
  refine wpAny_loadName_free hk hc (by show F.cl.lookup _ = _; rw [hcl]; rfl) ⟨_, X _ _ hcc, rfl⟩ ?_
  obtain ⟨ml, hns, hlk⟩ := I.loc
  obtain ⟨u, ru, hu⟩ := hlk 0 ar.arg (.ref e) h0 hσ (.inl hl0)
  obtain rfl : u = Value.ref e := ru
  have hml : ml ar.arg = some (.ref e) := by
    rcases hu with ⟨_, z⟩ | ⟨z | z, _⟩
    · exact z
    · have z : F.scope.names.lookup ar.arg = some .cell := z
      rw [hl0] at z; cases z
    · have z : F.scope.names.lookup ar.arg = some .free := z
      rw [hl0] at z; cases z
  refine wpAny_loadName_local hk hl0 hns hml ?_
  obtain ⟨hp, g, d, t, os⟩ := s1
  have hCh := X _ _ hC
  refine PySem.ks_wpAny_isType_cls hCh rfl ⟨rfl, ?_⟩
  refine PySem.ks_wpAny_call_super hCh rfl ho rfl (fun c z => by cases z) (PySem.W.looks_mroIn X T.smro) fun h1 e1 k1 => ?_
  have I1 := I.kept (t' := t) k1
  have X1 := I1.kIn
  have ho1 := k1 _ _ ho
  have hf1 : PySem.W.alongIn K "__init__" (((Value.ref C :: bm).dropWhile (· != .ref C)).drop 1) = some (some (.builtin "ValueError.__init__")) := by
    have z := T.sup
    unfold PySem.W.ks_superIn at z
    rw [hD] at z
    exact z
  have hI1 : PySem.W.Looks (model P w) h1 (isInstance (.ref e) (.type "ValueError")) true := (PySem.W.InstAt.type (od := none) ⟨ho1, rfl, rfl, trivial⟩).andThen (PySem.W.looks_subIn X1 T.sVE)
  refine PySem.W.kxs_getMethod (K := K) PySem.W.kxs_ValueError e1 (PySem.W.looks_opaque X1 T.tp) ((PySem.W.looks_clsIn X1 hD).andThen .now) rfl X1 hf1 hI1 ne (by decide) ?_
  have k2 : ∀ b o, h1.get? b = some o → (h1.push (PySem.W.kxs_mw "ValueError.__init__" e)).get? b = some o := fun b o y => Heap.get?_push_of_some _ y
  have I2 := I1.kept (t' := t + 1) k2
  have hu2 : (h1.push (PySem.W.kxs_mw "ValueError.__init__" e)).get? h1.objs.size = some (PySem.W.kxs_mw "ValueError.__init__" e) := Heap.get?_push_size h1 rfl
  have hI2 : Inv (ncx CX P w K mg base N F f A outer s H E) [((h1.objs.size, PySem.W.kxs_mw "ValueError.__init__" e))] σ H ⟨h1.push (PySem.W.kxs_mw "ValueError.__init__" e), g, d, t + 1, os⟩ := I2.pins_of fun p hp => by
    simp only [List.mem_singleton] at hp
    subst hp
    have fr := I1.hok.fresh (Nat.le_refl _)
    exact ⟨hu2, fr, fun z => by have := I1.lt; rw [← z] at this; exact absurd this (Nat.lt_irrefl _), I1.nofs (Nat.le_refl _), fun v z => by cases z⟩
  show wpAny _ _ (callWith p4 (.ref h1.objs.size) [] (backTo p4 (starEach [.Constant (.str txt) j p3] (envF F f s.heap.objs.size))) []) _ _ _
  refine PySem.W.kxs_callWith (i := "ValueError.__init__") (x := e) rfl (PySem.Calls.evalArgs_plain ?_)
  have hpa := (pa_cons (e := .Constant (.str txt) j p3) (es := []) pe_str pa_nil : PA (ncx CX P w K mg base N F f A outer s H E) [.Constant (.str txt) j p3] _)
  refine thn (hpa.run p4 _ _ σ H (fun vs H' => H' = H ∧ vs.length = 1) hI2 ⟨rfl, rfl⟩) fun us s3 ⟨vs3, H3, I3, r3, hH, hl3⟩ => ?_
  subst hH
  have hu3 := (I3.pin _ (List.mem_append_right _ (List.mem_singleton.mpr rfl))).1
  refine ⟨hu3, ?_⟩
  have hus : us.length ≤ sizeLine := by rw [← r3.length, hl3, sizeLine_eq]; decide
  obtain ⟨t3, ho3⟩ := exo_at I3.hok ea
  have hC3 := I3.kIn _ _ hC
  have I4 := I3.unpinned (pins := [])
  obtain ⟨hp3, g3, d3, tk3, os3⟩ := s3
  refine wpAny_call (codeAny_of_tree ?_)
  show wpAny _ _ (callAny (.ref h1.objs.size) ⟨[] ++ us, []⟩) _ _ _
  simp only [callAny]
  refine wpAny_bind (wpAny_load hu3 ?_)
  simp only [PySem.W.kxs_mw, show (Value.type "method-wrapper" == Value.type "method" || Value.type "method-wrapper" == Value.type "builtin_function_or_method" || Value.type "method-wrapper" == Value.type "method-wrapper") = true by decide, if_true]
  refine PySem.W.KFB.if_so (by decide) ?_
  refine wpAny_bind (PySem.W.check_bound_init PySem.F.excBase_ValueError.toExcCallFacts hC3 ho3 rfl ?_)
  refine wpAny_bind (wpAny_pure (wpAny_pure ?_))
  refine ⟨plainId_quiet PySem.F.excBase_ValueError.init.plain _, codeAny_builtin PySem.F.excBase_ValueError.initEntry ?_⟩
  refine PySem.W.exc_init_tree (cls := .ref C) (t0 := t3) (dv := none) (c2 := .none) (c3 := .none) (b4 := .bool false) ho3 hus fun h4 k4 e4 _ => ?_
  have J := I4.write (t' := tk3) (x := e) (e := e) (o := exo e C none) (by rw [ea]; exact True.intro) (.inl rfl) k4 ⟨_, e4⟩ (exo_ok e4)
  have eu : upd H3 e (exo e C none) = H3 := upd_id ea
  rw [eu] at J
  exact h _ J
end
end DL

namespace DL
open PySem L2 NdefX
/-- the words of an own exception's __init__: super().__init__(text), then the rest -/
structure XiW (F : NF) (N ps : List Str) (rest : List Stmt) : Prop where
  S : NScope N ps ["__class__"] F.scope
  body : ∃ p0 p1 p2 p3 p4 p5 txt j pl, F.body = .Expr (.Call (.Attribute (.Call (.Name "super" p0) [] [] p1) "__init__" p2) [.Constant (.str txt) j p3] [] p4) p5 :: rest ∧
    ∀ (f L : Addr), eval (.Call (.Attribute (.Call (.Name "super" p0) [] [] p1) "__init__" p2) [.Constant (.str txt) j p3] [] p4) (envF F f L) = (do
      let ov ← attributeBase (.Call (.Name "super" p0) [] [] p1) "__init__" (envF F f L) (eval (.Call (.Name "super" p0) [] [] p1) (envF F f L))
      standAt p2.atName
      let (f', first) ← holding [ov] (getMethod ov "__init__" pl)
      callWith p4 f' first (backTo p4 (starEach [.Constant (.str txt) j p3] (envF F f L))) [])
  hp : ∃ ar, (F.params.posonlyargs ++ F.params.args).head? = some ar ∧ N[0]? = some ar.arg ∧ F.scope.names.lookup ar.arg = some .local
  hs : F.scope.names.lookup ("super" : Str) = some .globalImplicit
  hc : F.scope.names.lookup ("__class__" : Str) = some .free
  hb : ∀ (dV kV doc pm : Value) (an : Option Addr) (ctv : Value) (us : List Value), us.length = ps.length → bindArgs (PySem.W.fnX F.name F.qual F.params F.body F.scope F.cl .none kV doc pm an (.ref F.c) ctv) ⟨us, []⟩ = pure (ps.zip us)
section
variable {CX : CXT} {P : Program} {w : World} {K : PySem.W.Frag} {mg : Str → Option Value} {base : Heap} {N ps : List Str} {F : NF} {f C : Addr} {k : Nat} {sp : Sp} {rest : List Stmt}
theorem xi_ok {oc kV doc pm ctv : Value} {od an : Option Addr} {osl : Array (Option Value)} (T : XiK P K mg C f F) (Y : XiW F N ps rest)
    (lk : K.lookup f = some ⟨oc, od, .func (PySem.W.fnX F.name F.qual F.params F.body F.scope F.cl .none kV doc pm an (.ref F.c) ctv), osl⟩)
    (len : ∀ vs H Q E, sp vs H Q E → vs.length = ps.length) (pre : ∀ vs H Q E, sp vs H Q E → ∃ e vs', vs = .ref e :: vs' ∧ H e = some (exo e C none))
    (hrest : ∀ (A : Around) (outer : List Env) (s : Shared) (H : Hp) (vs : List V) (Q : VK) (E : XK), sp vs H Q E →
      ∃ t, PSs (ncx CX P w K mg base N F f A outer s H E) rest t ∧ t { nx := fun _ H' => Q .non H', rt := Q } (startF N vs [some (.ref C)]) H) :
    FnOk P w K mg base CX (k + 1) f (PySem.W.fnX F.name F.qual F.params F.body F.scope F.cl .none kV doc pm an (.ref F.c) ctv) ps sp := by
  refine ⟨len, fun A outer s H args us vs Q E hr e0 hb r hsp => ?_⟩
  have hl := len _ _ _ _ hsp
  obtain ⟨e, vs', hvs, ea⟩ := pre _ _ _ _ hsp
  have KX : K.In s.heap := e0.mod.kin.keeps fun b o e => (e0.bs b o e).1
  have lim : s.heap.NoLimit := e0.mod.nolimit.keeps fun b o e => (e0.bs b o e).1
  obtain ⟨cc, hcl, ca, cb, ccx, hcc⟩ := T.cl
  obtain ⟨p0, p1, p2, p3, p4, p5, txt, j, pl, hbody, hev⟩ := Y.body
  obtain ⟨ar, hp, h0, hl0⟩ := Y.hp
  have hbs : ∀ b o, K.lookup b = some o → H b = none := fun b o z => (e0.bs b o (e0.mod.kin _ _ z)).2
  have CA : CellsAt F.cl ["__class__"] [some (.ref C)] s.heap H := by
    refine ⟨rfl, fun y c z => ?_, fun x y c z1 z2 => ?_, fun i y z => ?_⟩
    · rw [hcl] at z
      simp only [List.lookup] at z
      split at z
      · cases z
        exact ⟨hbs _ _ hcc, _, _, KX _ _ hcc, rfl⟩
      · cases z
    · rw [hcl] at z1 z2
      simp only [List.lookup] at z1 z2
      split at z1
      · split at z2
        · rename_i h1 _ h2
          exact (beq_iff_eq.mp h1).trans (beq_iff_eq.mp h2).symm
        · cases z2
      · cases z1
    · match i, z with
      | 0, z =>
        simp at z
        subst z
        refine ⟨cc, by rw [hcl]; simp [List.lookup], fun v hv => ?_⟩
        simp at hv
        subst hv
        exact ⟨.ref C, rfl, _, KX _ _ hcc, rfl⟩
      | i + 1, z => simp at z
  refine codeAny_call_function hr.depth (KX _ _ lk) rfl Y.S.co Y.S.gen rfl (PySem.W.codeRec_of KX T.hcd) (hb _ _ _ _ ?_)
  refine wpAny_newFunctionEnv Y.S.nocell (fun ⟨n, _⟩ hy => Y.S.par n (List.of_mem_zip hy).1) (fun h₁ hns hsb => ⟨lim.fresh _ hsb, ?_⟩) Y.S.kind
  show codeAny _ _ (.func F.body (envF F f s.heap.objs.size)) _ _
  have kp : ∀ b o, s.heap.get? b = some o → h₁.get? b = some o := fun b o e => hsb.extBut b o (Nat.ne_of_lt (Heap.lt_size e)) (Heap.get?_push_of_some _ e)
  have I : Inv (ncx CX P w K mg base N F f A outer s H E) [] (startF N vs [some (.ref C)]) H { s with heap := h₁, toks := s.toks + (ps.zip us).length } := inv_startN Y.S hr.hd e0 hl r CA hns kp
  obtain ⟨t, ht, hq⟩ := hrest A outer s H vs Q E hsp
  refine ks_codeAny_funcAt ?_
  have goal : _root_.PySem.wpAt (model P w) (A.deeper (envF F f s.heap.objs.size)) (.func F.body (envF F f s.heap.objs.size)) (execs (.Expr (.Call (.Attribute (.Call (.Name "super" p0) [] [] p1) "__init__" p2) [.Constant (.str txt) j p3] [] p4) p5 :: rest) (envF F f s.heap.objs.size))
      (SP (ncx CX P w K mg base N F f A outer s H E) [] { nx := fun _ H' => Q .non H', rt := Q }) (ncx CX P w K mg base N F f A outer s H E).xe { s with heap := h₁, toks := s.toks + (ps.zip us).length } := by
    refine ks_wpAt_execs_cons ?_
    refine xi_super (ar := ar) (e := e) T hp h0 Y.hs Y.hc hl0 I (by unfold startF; rw [hvs]; rfl) ea (hev f) fun s' J => ?_
    exact wpAt_of_wpAny (ht.run [] s' _ H _ J hq)
  rw [← hbody] at goal
  refine ks_wpAt_mono goal (fun fl s' hs => ?_) fun e s' hs => hs
  have fin : ∀ {σ' : L2.St} {H' : Hp} {v : V} {u : Value}, Inv (ncx CX P w K mg base N F f A outer s H E) [] σ' H' s' → L2.RelV v u → Q v H' → CE outer P w H s Q u s' :=
    fun {σ' H' v u} J rv q => ⟨v, H', J.os, J.bare, J.base, J.hok, rv, q⟩
  cases fl with
  | ret u =>
    obtain ⟨v, σ', H', J, rv, q⟩ := hs
    exact fin J rv q
  | next =>
    obtain ⟨σ', H', J, q⟩ := hs
    exact fin (v := V.non) (u := Value.none) J rfl q
  | brk =>
    obtain ⟨_, _, _, q⟩ := hs
    exact False.elim q
  | cont =>
    obtain ⟨_, _, _, q⟩ := hs
    exact False.elim q
end
end DL

namespace DL
open PySem L2 NdefX
/-! ### C(e): an exception with one field; C(): one with none -/
section
variable {X : Cx} {W : WX} {K : PySem.W.Frag} {mg : Str → Option Value} {P : Program} {w : World} {base : Heap} {F : NF} {f C : Addr}
/-- an own exception's class: its __init__ is such a def -/
structure Xc (P : Program) (w : World) (K : PySem.W.Frag) (mg : Str → Option Value) (x : Str) (C : Addr) (flds : List Str) : Prop where
  ex : ∃ (f : Addr) (F : NF) (fd : FuncData), OexC K C ∧ PySem.W.findIn K (.ref C) "__init__" = some (some (.ref f)) ∧ PySem.W.typeIn K (.ref f) = some (.type "function") ∧ mg x = some (.ref C) ∧ (∃ ps, ps.length = flds.length + 1 ∧ Binds K fd ps [] ∧
    ∀ (base : Heap) (CX : CXT), FnOk P w K mg base CX 2 f fd ps (fun vs H Q _ => vs.length = flds.length + 1 ∧ ∃ e vs', vs = .ref e :: vs' ∧ H e = some (exo e C none) ∧
      match flds with
      | [] => Q .non H
      | [g] => ∀ v, vs' = [v] → ∀ dx, H dx = none → dx ≠ e → Q .non (upd (upd H dx (exd dx [(g, v)])) e (exo e C (some dx)))
      | _ => False))
theorem xc_one {oc kV doc pm ctv : Value} {od an : Option Addr} {osl : Array (Option Value)} {x xf g : Str} {N : List Str} {rest : List Stmt} {pa pb pc pd : Pos} (T : XiK P K mg C f F) (Y : XiW F N ["self", xf] rest)
    (lk : K.lookup f = some ⟨oc, od, .func (PySem.W.fnX F.name F.qual F.params F.body F.scope F.cl .none kV doc pm an (.ref F.c) ctv), osl⟩)
    (hr : rest = [.Assign [.Attribute (.Name "self" pa) g pb] (.Name xf pc) pd]) (hN : N = ([("self" : Str), xf, ("__class__" : Str)] : List Str)) (hm : mg x = some (.ref C)) (hI : PySem.W.findIn K (.ref C) "__init__" = some (some (.ref f))) (hT : PySem.W.typeIn K (.ref f) = some (.type "function"))
    (hno : PySem.W.findIn K (.ref C) g = some none) (h1 : F.scope.names.lookup ("self" : Str) = some .local) (h2 : F.scope.names.lookup xf = some .local) (hd : (xf == ("__debug__" : Str)) = false) (hcd : (xf == ("__classdict__" : Str)) = false) : Xc P w K mg x C [g] := by
  refine ⟨f, F, _, T.oex, hI, hT, hm, ["self", xf], rfl, .all (fun us hl => Y.hb .none kV doc pm an ctv us hl), fun base CX => ?_⟩
  refine (xi_ok (k := 1) T Y lk (fun vs H Q E h => h.1) (fun vs H Q E h => let ⟨e, vs', h1, h2, _⟩ := h.2; ⟨e, vs', h1, h2⟩) fun A outer s H vs Q E h => ?_)
  subst hr
  subst hN
  obtain ⟨hl, e, vs', rfl, ea, q⟩ := h
  match vs', hl, q with
  | [v], _, q =>
    refine ⟨_, pss_one (ps_ost (pe_var (i := 0) rfl (.inl h1)) (pe_var (i := 1) rfl (.inl h2) hd hcd)), ?_⟩
    exact ⟨v, rfl, .ref e, rfl, e, C, rfl, T.oex, hno, .inl ⟨ea, fun dx n ne => q v rfl dx n ne⟩⟩
theorem xc_nil {oc kV doc pm ctv : Value} {od an : Option Addr} {osl : Array (Option Value)} {x : Str} {N : List Str} (T : XiK P K mg C f F) (Y : XiW F N ["self"] [])
    (lk : K.lookup f = some ⟨oc, od, .func (PySem.W.fnX F.name F.qual F.params F.body F.scope F.cl .none kV doc pm an (.ref F.c) ctv), osl⟩)
    (hm : mg x = some (.ref C)) (hI : PySem.W.findIn K (.ref C) "__init__" = some (some (.ref f))) (hT : PySem.W.typeIn K (.ref f) = some (.type "function")) : Xc P w K mg x C [] := by
  refine ⟨f, F, _, T.oex, hI, hT, hm, ["self"], rfl, .all (fun us hl => Y.hb .none kV doc pm an ctv us hl), fun base CX => ?_⟩
  refine (xi_ok (k := 1) T Y lk (fun vs H Q E h => h.1) (fun vs H Q E h => let ⟨e, vs', h1, h2, _⟩ := h.2; ⟨e, vs', h1, h2⟩) fun A outer s H vs Q E h => ?_)
  obtain ⟨hl, e, vs', rfl, ea, q⟩ := h
  exact ⟨_, pss_nil, q⟩
end
end DL

namespace DL
open PySem L2 PyProof.Rows
section
variable {X : Cx} {W : WX} {x : Str} {C : Addr} {k : Nat} {p pos pos2 : Pos} {e : Expr} {fs : RA} {g : Str}
/-- the end of C(): the exception is let go -/
theorem mk_bare {pins : List (Addr × Obj)} {σ : L2.St} {H1 : Hp} {Q : XK} {hp hp2 h2 : Heap} {g1 g2 : Array GenState} {d1 d2 : Drawn} {t1 t2 : Nat} {os1 os2 : OsState} {a : Addr} (T : Raises X (.ref C)) (I1 : Inv X pins σ H1 ⟨hp, g1, d1, t1, os1⟩)
    (ha : hp.objs.size ≤ a) (k : ∀ b o, hp.get? b = some o → hp2.get? b = some o) (un : Un (frs X.stack) [] (upd H1 a (exo a C none)) (upd H1 a (exo a C none)) hp2 h2) (hok : HOk X.prog X.w (upd H1 a (exo a C none)) h2) (ho : os2 = os1) (hb : AllBare g2)
    (q : Q (.ref C) none H1) : MkP X pins σ Q (.ref a) ⟨h2, g2, d2, t2, os2⟩ := by
  have ea : upd H1 a (exo a C none) a = some (exo a C none) := upd_same
  obtain ⟨t0, hoe⟩ := exo_at hok ea
  have hn : H1 a = none := I1.hok.fresh ha
  obtain ⟨G, g1', g2'⟩ := restrict h2 fun b => decide (b ≠ a)
  have gk : ∀ b, b ≠ a → G.get? b = h2.get? b := fun b hb => g1' b (decide_eq_true hb)
  have ge : G.get? a = none := g2' a (by simp)
  have nha : ∀ {b : Addr} {o : Obj}, hp.get? b = some o → b ≠ a := fun {b o} z => Nat.ne_of_lt (Nat.lt_of_lt_of_le (Heap.lt_size z) ha)
  have up : ∀ {b : Addr}, b ≠ a → H1 b = none → upd H1 a (exo a C none) b = none := fun {b} hb n => by rw [upd_ne hb]; exact n
  have dn : ∀ {b : Addr} {o : Obj}, hp.get? b = some o → upd H1 a (exo a C none) b = none → H1 b = none := fun {b o} z y => by
    rw [upd_ne (nha z)] at y
    exact y
  have U : Un (frs X.stack) [] H1 H1 hp G := {
    keep := fun b o z n hf hx => by
      rw [gk b (nha z)]
      exact un.keep b o (k b o z) (up (nha z) n) hf hx
    slot := fun b o z n hf hx => by
      rw [gk b (nha z)]
      exact un.slot b o (k b o z) (up (nha z) n) hf hx
    free := fun b o z n hx => n
    there := fun b o z hx => by
      rw [gk b (nha z)]
      exact un.there b o (k b o z) hx
    tups := fun b xs z => z
    frzs := fun b o v z => z
    tbls := fun b ps z => by
      obtain ⟨m, y⟩ := un.tbls b ps (by rw [upd_ne (ne_of_none z hn)]; exact z)
      rw [upd_ne (ne_of_none z hn)] at y
      exact ⟨m, y⟩ }
  have hok3 : HOk X.prog X.w H1 G := fun b o z => by
    have hba : b ≠ a := ne_of_none z hn
    have z' : upd H1 a (exo a C none) b = some o := by rw [upd_ne hba]; exact z
    have noa : ∀ {c : Addr}, upd H1 a (exo a C none) c = some (.own b) → c ≠ a := fun {c} hc => at_ne ea hc exo_own
    exact (hok b o z').stay (fun c v hc y => by
        have hca : c ≠ a := by
          rcases hc with hc | hc
          · rw [hc]
            exact hba
          · exact noa hc
        rw [gk c hca]
        exact y)
      (fun c hc => by have := noa hc; rw [upd_ne this] at hc; exact hc) (fun c xs hc => by have := at_ne ea hc exo_tup; rw [upd_ne this] at hc; exact hc)
  have J : Inv X pins σ H1 ⟨G, g2, d2, t2, os2⟩ := I1.call' (ch := []) ho U hok3 hb (fun b z => absurd z (by simp))
  refine ⟨a, _, _, ⟨G, g2, d2, t2, os2⟩, _, .ref C, none, rfl, J, fun b o z => ?_, ge, hoe, ⟨rfl, rfl⟩, rfl, rfl, hn, rfl, hb, T, q⟩
  by_cases hba : b = a
  · rw [hba, ge] at z
    cases z
  · exact (gk b hba).symm.trans z
theorem pmk_nil (T : Xc X.prog X.w X.K X.mg x C []) (hr : Room 3 X.A) (hg : Gl X x) (hdb : (x == ("__debug__" : Str)) = false := by decide) :
    PMk X (.Call (.Name x p) [] [] pos) (fun σ H Q => Q (.ref C) none H) := by
  obtain ⟨f, F, fd, T1, iC, tI, hm, ps, hps, hb, hF⟩ := T.ex
  intro pins s σ H Q I h
  have F1 := hF X.base (L2.CX X.prog X.w)
  obtain ⟨nm, q, N, bs, bm, sn, sub, ab, col, dd, k0, k1, k2, k3, k5, hC, hbm⟩ := T1.cls
  refine wpAny_Call_Name_kw (ld_glob I hg hm ?_ hdb)
  refine PySem.W.callWith_K0 I.kIn T1.kC ?_
  show wpAny _ _ (call (.ref C) []) _ _ _
  obtain ⟨hp, g, dr, tk, os⟩ := s
  have hsz : hp.objs.size ≤ hp.objs.size + 1 := Nat.le_succ _
  have hn : H (hp.objs.size + 1) = none := I.hok.fresh hsz
  have kk : ∀ b o, hp.get? b = some o → ((hp.push (PySem.W.kdv_tup [])).push (PySem.HandSPX.excO C hp.objs.size)).get? b = some o := fun b o e => Heap.get?_push_of_some _ (Heap.get?_push_of_some _ e)
  have hget : ((hp.push (PySem.W.kdv_tup [])).push (PySem.HandSPX.excO C hp.objs.size)).get? (hp.objs.size + 1) = some (PySem.HandSPX.excO C hp.objs.size) := by heap_get
  have I2 : Inv X pins σ (upd H (hp.objs.size + 1) (exo (hp.objs.size + 1) C none)) ⟨(hp.push (PySem.W.kdv_tup [])).push (PySem.HandSPX.excO C hp.objs.size), g, dr, tk, os⟩ :=
    I.laid (t' := tk) (a := hp.objs.size + 1) (o := exo (hp.objs.size + 1) C none) (h' := (hp.push (PySem.W.kdv_tup [])).push (PySem.HandSPX.excO C hp.objs.size)) kk hsz (exo_ok hget)
  have r2 : Vals [V.ref (hp.objs.size + 1)] [Value.ref (hp.objs.size + 1)] := .cons rfl .nil
  refine wpAny_call (PySem.HandSPX.call_own PySem.F.excBase_ValueError (fun Y => PySem.HandSPX.refsVE_contains Y bm hbm) (I.kIn _ _ hC) (PySem.W.looks_findIn I.kIn iC) (fun self => PySem.W.bind_fn I.kIn self tI) (by decide)
    (codeAny_mono (F1.run _ X.stack _ _ ⟨[Value.ref (hp.objs.size + 1)], []⟩ [Value.ref (hp.objs.size + 1)] _ (fun v H2 => v = .non ∧ H2 = upd H (hp.objs.size + 1) (exo (hp.objs.size + 1) C none)) (fun _ _ _ => False) (hr.make C [] []) (I2.env0.make C [] [])
      (by have z := hb ⟨(hp.push (PySem.W.kdv_tup [])).push (PySem.HandSPX.excO C hp.objs.size), g, dr, tk, os⟩ [Value.ref (hp.objs.size + 1)] I2.kIn (by rw [hps]; rfl); rw [List.append_nil] at z; exact z) r2 ⟨rfl, _, [], rfl, upd_same, rfl, rfl⟩) fun r s' hq' => ?_))
  cases r with
  | error er => exact passL (X := X) pins σ _ _ er s' I2 hq'
  | ok fl =>
    cases fl with
    | ret u =>
      obtain ⟨v, H2, os2, bare2, un2, hok2, rv, ev, e2⟩ := hq'
      subst ev
      subst e2
      obtain ⟨h2, g2, d2, t2, os'⟩ := s'
      exact ⟨rv, mk_bare (raises_own T1.exC T1.tyC) I hsz kk un2 hok2 os2 bare2 h⟩
    | next => exact False.elim hq'
    | brk => exact False.elim hq'
    | cont => exact False.elim hq'
/-- raise C(e) | raise C() -/
def rRaise (C : Addr) (gs : List Str) (fs : RA) : RS := fun δ μ => (fs δ μ).st δ fun ds μ1 => if ds.length = gs.length then .exc ⟨.ref C, gs, ds⟩ δ μ1 else .bad
theorem psd_raise1 (T : Xc X.prog X.w X.K X.mg x C [g]) (gd : Good X W k) (ha : PDA X W [e] fs) (hk : 3 ≤ k := by decide) (hg : Gl X x := by rfl) (hdb : (x == ("__debug__" : Str)) = false := by decide)
    (he : starEach [e] X.env = (false, eval e X.env) :: starEach [] X.env := by rfl) : PSD X W (.Raise (some (.Call (.Name x p) [e] [] pos)) none pos2) (rRaise C [g] fs) := by
  obtain ⟨f, F, fd, T1, iC, tI, hm, ps, hps, hb, hF⟩ := T.ex
  refine ps_weak (ps_raise gd.calm gd.tk (pmk_oex T1 iC tI (hF X.base (L2.CX X.prog X.w)) (gd.hr.mono hk) hb .nil passL hg hm ha hdb he rfl)) fun D σ H ⟨γ, α, F, μ, δ, w, s, q⟩ => ?_
  refine tDA_st w s q fun ds μ1 α1 F1 H1 vs p1 e1 w1 s1 hv q1 => ?_
  match ds, hv, q1 with
  | [d], .cons (v := v) hd .nil, q1 =>
    refine ⟨by simp, fun a na => ?_⟩
    refine ⟨rfl, a, _, rfl, upd_same, fun v' hv' dx n ne => ?_⟩
    simp only [List.append_nil, List.cons.injEq, and_true] at hv'
    subst hv'
    have ndx : H1 dx = none := by rw [upd_ne ne] at n; exact n
    refine ⟨rfl, dx, [(g, v)], upd_same, by rw [upd_ne ne, upd_same], ndx, ?_⟩
    have eH : upd (del (upd (upd (upd H1 a (exo a C none)) dx (exd dx [(g, v)])) a (exo a C (some dx))) a) dx (.xd [(g, v)]) = upd H1 dx (.xd [(g, v)]) := by
      funext b
      by_cases hb : b = dx
      · rw [hb, upd_same, upd_same]
      · rw [upd_ne hb, upd_ne hb]
        by_cases hba : b = a
        · rw [hba, del_same, na]
        · rw [del_ne hba, upd_ne hba, upd_ne hb, upd_ne hba]
    rw [eH]
    have fr := w1.sub.free ndx
    refine q1 α1 (upd F1 dx (.xd [(g, v)])) _ _ _ _ (List.prefix_refl _) (same_new fr) (w1.lay ndx) (s1.mono (List.prefix_refl _) (same_new fr)) ⟨rfl, .inr ⟨dx, [(g, v)], rfl, upd_same, rfl, .cons (hd.mono (List.prefix_refl _) (same_new fr)) .nil⟩⟩
  | [], _, q1 => exact q1.elim
  | _ :: _ :: _, _, q1 => exact q1.elim
theorem psd_raise0 (T : Xc X.prog X.w X.K X.mg x C []) (gd : Good X W k) (hk : 3 ≤ k := by decide) (hg : Gl X x := by rfl) (hdb : (x == ("__debug__" : Str)) = false := by decide) :
    PSD X W (.Raise (some (.Call (.Name x p) [] [] pos)) none pos2) (rRaise C [] rNil) := by
  refine ps_weak (ps_raise gd.calm gd.tk (pmk_nil T (gd.hr.mono hk) hg hdb)) fun D σ H ⟨γ, α, F, μ, δ, w, s, q⟩ => ?_
  exact q α F H σ _ _ (List.prefix_refl _) (Same.refl F) w s ⟨rfl, .inl ⟨rfl, rfl, rfl⟩⟩
end
end DL

/-! isinstance(e, c) of a caught exception that may have fields -/
namespace PySem.W
variable {prog : Program} {w : World} {A : Around} {E : Value → Shared → Prop} {K : Frag} {D x : Addr} {ox : Obj} {od : Option Obj} {s : Shared} {b : Bool}
theorem dl_find {C : Addr} {name : Str} {a g : Value} (hc : (clsIn K C).isSome = true) (ha : findIn K (.ref C) name = some (some a)) (hg : specialIn K a "__get__" = some (some g)) (ht : takesIn K a = some true) : findObj K C od name = some (.bind g a) := by
  obtain ⟨cd, hc⟩ := Option.isSome_iff_exists.mp hc
  unfold findObj
  rw [hc, Option.bind_some, ha, Option.bind_some]
  simp [hg, ht]
theorem dl_class {Q : Option Value → Shared → Prop} (C : L2.ExcC K D) (X : K.In s.heap) (I : InstAt s.heap x ox D od) (h : Q (some (.ref D)) { s with toks := s.toks + 1 }) : wpAny (model prog w) A (getAttr? (.ref x) "__class__") Q E s := by
  have hf : findObj K D od "__class__" = some (.bind (.builtin "getset_descriptor.__get__") (.builtin "object.__class__")) := dl_find (by obtain ⟨cd, hc, _⟩ := any_some C.hd; rw [hc]; rfl) C.ha C.hn C.ht
  obtain ⟨hp, g, d, t, os⟩ := s
  have L0 := I.type (M := model prog w)
  have L1 := looks_findIn (M := model prog w) X C.hg
  have L2 := looks_findIn (M := model prog w) X C.hk
  have L3 := looks_find (M := model prog w) X I hf
  have sub : Looks (model prog w) hp (isInstance (.ref x) (.type "BaseException")) true := L0.andThen (looks_subIn X C.hs)
  have hx0 : (false && onTheHeap (Value.builtin "BaseException.__getattribute__")) = false := rfl
  have hx2 : (Value.builtin "BaseException.__getattribute__" == Value.builtin "object.__getattribute__") = false := by decide +kernel
  have hx1 : (onTheHeap (Value.ref D) && Value.builtin "BaseException.__getattribute__" == Value.builtin "object.__getattribute__") = false := by rw [hx2]; rfl
  unfold getAttr? getAttrBy? getAttrBy
  refine wpAny_bind (wpAny_mkText (wpAny_bind (wpAny_attempt (wpAny_holding (wpAny_bind (L0.at (wpAny_bind (L1.at ?_))))))))
  show wpAny _ _ (if (onTheHeap (Value.ref D) && Value.builtin "BaseException.__getattribute__" == Value.builtin "object.__getattribute__") = true then _ else _) _ _ _
  rw [hx1, if_neg Bool.false_ne_true]
  unfold getAttrByItsOwn hookBefore
  refine wpAny_bind ?_
  rw [if_pos (show onTheHeap (Value.ref D) = true from rfl)]
  refine L2.at ?_
  refine wpAny_bind (wpAny_attempt (wpAny_holding ?_))
  unfold callGetattribute
  rw [hx0, if_neg Bool.false_ne_true]
  unfold boundAndCalled
  rw [PySem.F.excAttr_ValueError.ga.bind (.ref x)]
  refine wpAny_bind (wpAny_pure ?_)
  show wpAny _ _ (call (.builtin "BaseException.__getattribute__") [.ref x, .str "__class__" t]) _ _ _
  refine wpAny_call (codeAny_call_builtin PySem.F.excAttr_ValueError.ga.plain PySem.F.entry_bexc_ga ?_)
  refine @check_slot (model prog w) _ _ ⟨hp, g, d, t + 1, os⟩ "BaseException.__getattribute__" "BaseException" "__getattribute__" (.ref x) [.str "__class__" t] [] _ (by decide +kernel) (by decide +kernel) sub (PySem.F.args_bexc_ga (.ref x) (.str "__class__" t)) ?_
  unfold Builtin.«object.__getattribute__»
  refine wpAny_bind (wpAny_of_eq (a := ((Value.ref x : Value), [Value.str "__class__" t])) (by first | rfl | (simp only [slotArgs]; rfl)) ?_)
  refine wpAny_bind (wpAny_pure (wpAny_bind (L0.at (wpAny_bind (L3.at ?_)))))
  show wpAny _ _ (holding [Value.builtin "object.__class__"] (call (.builtin "getset_descriptor.__get__") [.builtin "object.__class__", .ref x, .ref D]) >>= ret) _ _ _
  refine wpAny_bind (wpAny_holding (wpAny_call (class_get (s := ⟨hp, g, d, t + 1, os⟩) (ox := ox) (od := od) X I C.hm ?_)))
  refine wpAny_pure ?_
  show wpAny _ _ (handedOut (.ref D)) _ _ _
  rw [handedOut_of (v := .ref D) rfl]
  first
    | exact wpAny_pure (wpAny_pure h)
    | exact wpAny_pure h
    | exact wpAny_pure (wpAny_bind (wpAny_pure (wpAny_pure h)))
theorem dl_kit (C : L2.ExcC K D) : KitX K (.ref x) (.ref D) (fun h => InstAt h x ox D od) where
  ty := fun _ _ _ I => I.type
  it := fun _ _ X _ => by
    obtain ⟨cdD, hcD, _⟩ := any_some C.hd
    unfold clsIn at hcD
    split at hcD
    · rename_i c' d' cd' sl' ho
      intro A' Q' E' s' k q
      unfold isType loadHead
      exact wpAny_bind (wpAny_loadPart (k _ _ (X _ _ ho)) (wpAny_pure q))
    · cases hcD
  ne := fun h tp dd its n sl X htp => by
    obtain ⟨cdD, hcD, _⟩ := any_some C.hd
    refine Bool.eq_false_iff.mpr fun q => ?_
    have e : D = tp := Value.ref.inj (beq_iff_eq.mp q)
    subst e
    unfold clsIn at hcD
    split at hcD
    · rename_i c' d' cd' sl' ho
      have z := (X _ _ ho).symm.trans htp
      cases z
    · cases hcD
  ca := fun X I k => dl_class C X I k
end PySem.W
namespace DL
open PySem L2 PyProof.Rows
theorem call_isX {X : Cx} {a D : Addr} {oe : Obj} {d : Option Addr} {pn : List (Addr × Obj)} (C : ExcC X.K D) (hz : Zc (.ref D) d oe) (hf : ∃ vs, oe.data = .fields vs) {pins : List (Addr × Obj)} {σ : L2.St} {H : Hp} {s : Shared} {c : Value} {b : Bool} {Q : Value → Shared → Prop} {E : Value → Shared → Prop}
    (I : Inv (X.suite a ((a, oe) :: pn)) pins σ H s) (hd : ∀ dd, d = some dd → ∃ fv, H dd = some (.xd fv)) (e : PySem.W.kitOne X.K (.ref D) c = some b) (q : ∀ s', Inv (X.suite a ((a, oe) :: pn)) pins σ H s' → Q (.bool b) s') : wpAny (model X.prog X.w) (X.suite a ((a, oe) :: pn)).A (call (.builtin "isinstance") [.ref a, c]) Q E s := by
  obtain ⟨hget, _⟩ := I.pin (a, oe) (List.mem_append.mpr (.inl List.mem_cons_self))
  obtain ⟨vs, hv⟩ := hf
  have J : ∃ od, PySem.W.InstAt s.heap a oe D od := by
    obtain ⟨oc, odd, oda, osl⟩ := oe
    obtain ⟨h1, h2⟩ := hz
    dsimp only at h1 h2 hv
    subst h1 h2 hv
    cases odd with
    | none => exact ⟨none, hget, rfl, rfl, trivial⟩
    | some dd =>
      obtain ⟨fv, hdd⟩ := hd dd rfl
      have z : ObjOk X.prog X.w H s.heap dd (.xd fv) := I.hok dd _ hdd
      obtain ⟨mA, ⟨o, es, ep, ho, _⟩, _⟩ := z
      exact ⟨some o, hget, rfl, rfl, ho⟩
  obtain ⟨od, J⟩ := J
  exact PySem.W.kia_one (PySem.W.dl_kit C) I.kIn J e (fun z => nomatch z) fun tk => q _ (I.kept (t' := tk) fun _ _ z => z)
end DL

/-! The data layer, s: try: body, except clauses with and without names. -/
namespace DL
open PySem L2 PyProof.Rows
abbrev TX := Addr → Value → Option Addr → TS
def unE (D : Ends) (i : Nat) : Ends := { nx := fun σ' H' => D.nx (σ'.set i none) H', rt := D.rt, bk := fun σ' H' => D.bk (σ'.set i none) H', ct := fun σ' H' => D.ct (σ'.set i none) H' }
/-- one clause: the class, its name's slot, the suite -/
structure Cl where
  c : Value
  i : Option Nat
  ts : TX
def wMix (K : PySem.W.Frag) (n : Nat) (Wout : WX) (D : Ends) : List Cl → WX
  | [] => Wout
  | k :: r => fun cls d σ H => ∃ b, PySem.W.exmOne K cls k.c = some b ∧
      (b = true → σ.length = n → ∀ a, H a = none → match k.i with
        | none => k.ts a cls d D σ H
        | some i => k.ts a cls d (unE D i) (σ.set i (some (.ref a))) H) ∧ (b = false → wMix K n Wout D r cls d σ H)
inductive HdX (X : Cx) : List ExceptHandler → List Cl → Prop
  | nil : HdX X [] []
  | bare {x : Str} {c : Value} {ts : TX} {b₀ : Stmt} {suite : List Stmt} {np pos' : Pos} {hds : List ExceptHandler} {l : List Cl} (hc : Names X x c)
      (hsu : ∀ (a : Addr) (oe : Obj) (cls : Value) (d : Option Addr) (pn : List (Addr × Obj)), Zc cls d oe → (∃ vs, oe.data = .fields vs) → PSs (X.suite a ((a, oe) :: pn)) (b₀ :: suite) (ts a cls d)) (r : HdX X hds l) :
      HdX X (.ExceptHandler (some (.Name x np)) none (b₀ :: suite) pos' :: hds) (⟨c, none, ts⟩ :: l)
  | named {x n : Str} {i : Nat} {c : Value} {ts : TX} {b₀ : Stmt} {suite : List Stmt} {np pos' : Pos} {hds : List ExceptHandler} {l : List Cl} (hc : Names X x c) (hi : X.N[i]? = some n) (hln : X.env.kindOf n = some .local)
      (hsu : ∀ (a : Addr) (oe : Obj) (cls : Value) (d : Option Addr) (pn : List (Addr × Obj)), Zc cls d oe → (∃ vs, oe.data = .fields vs) → PSs (X.suite a ((a, oe) :: pn)) (b₀ :: suite) (ts a cls d)) (r : HdX X hds l) :
      HdX X (.ExceptHandler (some (.Name x np)) (some n) (b₀ :: suite) pos' :: hds) (⟨c, some i, ts⟩ :: l)
section
variable {X : Cx} {body : List Stmt} {h₀ : ExceptHandler} {hds : List ExceptHandler} {l : List Cl} {pos : Pos} {tb : WX → TS} {Wout : WX}
theorem ps_try_mix (hs : X.stack = X.env :: X.outer) (hf : X.env.frame = some X.env.locals) (hN : X.N.Nodup) (tk : Takes X Wout)
    (hb : ∀ (W : WX) (pn : List (Addr × Obj)) (xe : Value → Shared → Prop), Takes (X.tr pn xe) W → PassesOwn (model X.prog X.w) X.A X.env xe → PSs (X.tr pn xe) body (tb W))
    (hh : HdX X (h₀ :: hds) l) : PS X (.Try body (h₀ :: hds) [] [] pos) (fun D σ H => tb (wMix X.K X.N.length Wout D l) D σ H) := by
  refine ⟨fun pins s σ H D I h => ?_⟩
  have ok := I.ok
  have hfr : X.A.frames = some (X.env :: X.outer) := by rw [ok.frames, hs]
  refine wpAny_Try_except ?_
  refine wpAny_mono ((hb (wMix X.K X.N.length Wout D l) (X.pn ++ pins) (fun e s₁ => wpAny (model X.prog X.w) X.A (noteFrame e X.env) (fun _ s₂ => wpAny (model X.prog X.w) X.A (setFlight e none) (fun _ s₃ =>
    wpAny (model X.prog X.w) X.A (handleBy e X.env (h₀ :: hds)) (SP X pins D) X.xe s₃) X.xe s₂) X.xe s₁) (fun u s' xx => ?_) PassesOwn.looking).run [] s σ H D (I.toTry _) h) (fun f s1 hsp => ?_) (fun e s1 he => he)
  · obtain ⟨a, B, sI, pins', σ', H', cls, d, rfl, J', nb, up, sky, na, os, ag, w⟩ := xx
    have J : Inv X pins σ' H' sI := J'.ofTry ok
    have sky' : Sky B (X.env :: X.outer) a (Zc cls d) X.env.locals s'.heap := by rw [← hs]; exact sky
    show wpAny (model X.prog X.w) X.A (noteFrame (.ref a) X.env) _ _ _
    refine Sky.land Zc.steady hfr hf sky' fun h3 fl3 up3 => ?_
    have J3 : Inv X pins σ' H' { s' with heap := h3 } := J.landed nb fl3.1 (up.trans up3) os ag
    obtain ⟨oe3, vs3, he3, hz3, hd3⟩ := fl3.there
    have notFr : ∀ {h : Heap} {o : Obj} {vs : Array Value}, h.FunFrames B (X.env :: X.outer) → h.get? a = some o → o.data = .fields vs → a ∉ frs (X.env :: X.outer) := fun {h o vs} ff e dd hm => by
      obtain ⟨_, o', e', hnf⟩ := ff.mem hm
      rw [e] at e'; cases e'
      exact hnf _ dd
    have nfr := notFr fl3.2.2.1 he3 hd3
    have nL : a ≠ X.env.locals := fun z => nfr (List.mem_filterMap.mpr ⟨X.env, List.mem_cons_self, by rw [hf, z]⟩)
    have nF : a ∉ X.fs := fun hm => by
      obtain ⟨e, he, q⟩ := List.mem_filterMap.mp hm
      exact nfr (List.mem_filterMap.mpr ⟨e, List.mem_cons_of_mem _ he, q⟩)
    have S3 := J3.suite he3 hd3 na nL nF
    have LT : PySem.W.Looks (model X.prog X.w) h3 (typeOf (.ref a)) cls := fun A Q E s k q => wpAny_typeOf_ref (k _ _ he3) (by rw [hz3.1]; exact q)
    have go : ∀ {hds' : List ExceptHandler} {l' : List Cl}, HdX X hds' l' → wMix X.K X.N.length Wout D l' cls d σ' H' →
        wpAny (model X.prog X.w) X.A (handleBy (.ref a) X.env hds') (SP X pins D) X.xe { s' with heap := h3 } := by
      intro hds' l' hk
      induction hk with
      | nil =>
        intro w
        refine wpAny_handleBy_nil ?_
        obtain ⟨k1, k2, k3, oe, vs, T, oT, ts', he, hz, hd, h1, hr⟩ := id fl3
        unfold PySem.passOn
        refine wpAny_bind (wpAny_field he hd h1 ?_)
        rw [if_neg (show ¬ ((Value.ref T == Value.none) = true) from by simp)]
        have fin : wpAny (model X.prog X.w) X.A (setFlight (.ref a) X.env.frame) (fun _ s4 => wpAny (model X.prog X.w) X.A (throw (.ref a) : Sem Flow) (SP X pins D) X.xe s4) X.xe { s' with heap := h3 } := by
          rw [hf]
          refine HandSPX.setFlight_upZ fl3 fun h4 hh4 up4 => wpAny_throw (tk _ _ ?_)
          exact ⟨a, B, sI, pins, σ', H', cls, d, rfl, J, nb, (up.trans up3).trans up4, .inr (.inr (by rw [hs]; exact hh4)), na, os, ag, w⟩
        first
          | exact wpAny_bind (wpAny_pure (wpAny_bind fin))
          | exact wpAny_bind fin
      | @bare x c ts b₀ suite np pos' hds2 l2 hc hsu r ih =>
        intro w
        obtain ⟨b, hb1, hyes, hno⟩ := w
        refine wpAny_handleBy_cons (codeAny_handlers_test ?_) (by intro q; cases q)
        have LM := PySem.W.exm_one (M := model X.prog X.w) (J3.kIn) LT hb1
        have test : ∀ {Q : Value → Shared → Prop} {E : Value → Shared → Prop}, Q c { s' with heap := h3 } → wpAny (model X.prog X.w) (X.A.mark (some (.ref a))) (eval (.Name x np) X.env) Q E { s' with heap := h3 } := fun {Q E} q => by
          obtain ⟨hg, hdbg, hm | ⟨hm, hv, hnn⟩⟩ := hc
          · exact ld_glob (X := X.suite a ((a, oe3) :: (X.pn ++ pins))) S3 hg hm q hdbg
          · exact ld_blt (X := X.suite a ((a, oe3) :: (X.pn ++ pins))) S3 hg hm hv q hnn hdbg
        refine test (LM.here ?_)
        cases b with
        | true =>
          refine codeAny_handlers_suite ?_
          refine HandSPX.lands_againZ fl3 fun h4 fl4 up4 => ?_
          have J4 : Inv X pins σ' H' { s' with heap := h4 } := J.landed nb fl4.1 ((up.trans up3).trans up4) os ag
          obtain ⟨oe4, vs4, he4, hz4, hd4⟩ := fl4.there
          have S4 := J4.suite he4 hd4 na nL nF
          refine wpAny_mono ((hsu a oe4 cls d (X.pn ++ pins) hz4 ⟨_, hd4⟩).run [] _ _ H' _ S4 (hyes rfl J4.len a na)) (fun f s6 hsp => ?_) (fun _ _ z => False.elim z)
          cases f with
          | next =>
            obtain ⟨σ6, H6, S6, q6⟩ := hsp
            exact ⟨_, _, S6.unsuite ok, q6⟩
          | brk =>
            obtain ⟨σ6, H6, S6, q6⟩ := hsp
            exact ⟨_, _, S6.unsuite ok, q6⟩
          | cont =>
            obtain ⟨σ6, H6, S6, q6⟩ := hsp
            exact ⟨_, _, S6.unsuite ok, q6⟩
          | ret u =>
            obtain ⟨v6, σ6, H6, S6, r6, q6⟩ := hsp
            exact ⟨_, _, _, S6.unsuite ok, r6, q6⟩
        | false =>
          show wpAny _ X.A (handleBy (.ref a) X.env hds2) _ _ _
          exact ih (hno rfl)
      | @named x n i c ts b₀ suite np pos' hds2 l2 hc hi hln hsu r ih =>
        intro w
        obtain ⟨b, hb1, hyes, hno⟩ := w
        refine wpAny_handleBy_cons (codeAny_handlers_test ?_) (by intro q; cases q)
        have LM := PySem.W.exm_one (M := model X.prog X.w) (J3.kIn) LT hb1
        have test : ∀ {Q : Value → Shared → Prop} {E : Value → Shared → Prop}, Q c { s' with heap := h3 } → wpAny (model X.prog X.w) (X.A.mark (some (.ref a))) (eval (.Name x np) X.env) Q E { s' with heap := h3 } := fun {Q E} q => by
          obtain ⟨hg, hdbg, hm | ⟨hm, hv, hnn⟩⟩ := hc
          · exact ld_glob (X := X.suite a ((a, oe3) :: (X.pn ++ pins))) S3 hg hm q hdbg
          · exact ld_blt (X := X.suite a ((a, oe3) :: (X.pn ++ pins))) S3 hg hm hv q hnn hdbg
        refine test (LM.here ?_)
        cases b with
        | true =>
          refine codeAny_handlers_suite_as ?_
          refine HandSPX.lands_againZ fl3 fun h4 fl4 up4 => ?_
          have J4 : Inv X pins σ' H' { s' with heap := h4 } := J.landed nb fl4.1 ((up.trans up3).trans up4) os ag
          obtain ⟨oe4, vs4, he4, hz4, hd4⟩ := fl4.there
          have S4 := J4.suite he4 hd4 na nL nF
          refine store_ok (X := X.suite a ((a, oe4) :: (X.pn ++ pins))) (v := .ref a) S4 hN hi (.inl hln) rfl (fun s5 S5 => ?_) (.inr hln)
          refine wpAny_mono ((hsu a oe4 cls d (X.pn ++ pins) hz4 ⟨_, hd4⟩).run [] s5 _ H' _ S5 (hyes rfl J4.len a na)) (fun f s6 hsp => ?_) (fun _ _ z => False.elim z)
          have end_ : ∀ {σ6 : L2.St} {H6 : Hp} {Q : Shared → Prop}, Inv (X.suite a ((a, oe4) :: (X.pn ++ pins))) [] σ6 H6 s6 → (∀ s7, Inv X pins (σ6.set i none) H6 s7 → Q s7) →
              wpAny (model X.prog X.w) X.A (do bindName X.env n .none; unbindBehindTheSuite X.env n pos') (fun _ s7 => Q s7) X.xe s6 := fun {σ6 H6 Q} S6 hq => gone_ok (S6.unsuite ok) hN hi hln hq
          cases f with
          | next =>
            obtain ⟨σ6, H6, S6, q6⟩ := hsp
            exact end_ S6 fun s7 J7 => ⟨_, _, J7, q6⟩
          | brk =>
            obtain ⟨σ6, H6, S6, q6⟩ := hsp
            exact end_ S6 fun s7 J7 => ⟨_, _, J7, q6⟩
          | cont =>
            obtain ⟨σ6, H6, S6, q6⟩ := hsp
            exact end_ S6 fun s7 J7 => ⟨_, _, J7, q6⟩
          | ret u =>
            obtain ⟨v6, σ6, H6, S6, r6, q6⟩ := hsp
            exact end_ S6 fun s7 J7 => ⟨_, _, _, J7, r6, q6⟩
        | false =>
          show wpAny _ X.A (handleBy (.ref a) X.env hds2) _ _ _
          exact ih (hno rfl)
    exact go hh w
  · cases f with
    | next =>
      obtain ⟨σ', H', J', q⟩ := hsp
      exact wpAny_execs_nil ⟨σ', H', J'.ofTry ok, q⟩
    | brk =>
      obtain ⟨σ', H', J', q⟩ := hsp
      exact ⟨σ', H', J'.ofTry ok, q⟩
    | cont =>
      obtain ⟨σ', H', J', q⟩ := hsp
      exact ⟨σ', H', J'.ofTry ok, q⟩
    | ret u =>
      obtain ⟨v, σ', H', J', r, q⟩ := hsp
      exact ⟨v, σ', H', J'.ofTry ok, r, q⟩
end
end DL

/-! The data layer, t: try as a reading; what stands in an except suite. -/
namespace DL
open PySem L2 PyProof.Rows
structure Hd where
  m : Value → Option Bool
  i : Option Nat
  s : Exn → RS
/-- slot i is forgotten behind a suite -/
def unS (i : Option Nat) (r : SO) : SO := match r with
  | .nx δ μ => .nx (match i with | some i => δ.set i none | none => δ) μ
  | .rt d μ => .rt d μ
  | _ => .bad
def handle : List Hd → Exn → RS
  | [], x => fun δ μ => .exc x δ μ
  | h :: r, x => fun δ μ => match h.m x.cls with
    | some true => unS h.i (h.s x (match h.i with | some i => δ.set i none | none => δ) μ)
    | some false => handle r x δ μ
    | none => .bad
def rTry (f : RS) (hs : List Hd) : RS := fun δ μ => match f δ μ with
  | .exc x δ1 μ1 => handle hs x δ1 μ1
  | r => r
/-- a suite's reading -/
def tXS (K : PySem.W.Frag) (i : Option Nat) (s : Exn → RS) : TX := fun a cls d D σ H => ∃ γ α F μ δ x, Wd K γ α F H μ ∧ SlIs K α F σ δ ∧ XIs K α F x cls d ∧ (∀ j, i = some j → σ[j]? = some (some (.ref a))) ∧ FinS K γ α F (s x δ μ) D W0
def PXS (X : Cx) (i : Option Nat) (st : List Stmt) (s : Exn → RS) : Prop := ∀ (a : Addr) (oe : Obj) (cls : Value) (d : Option Addr) (pn : List (Addr × Obj)), Zc cls d oe → (∃ vs, oe.data = .fields vs) → PSs (X.suite a ((a, oe) :: pn)) st (tXS X.K i s a cls d)
inductive HdD (X : Cx) : List ExceptHandler → List Hd → Prop
  | nil : HdD X [] []
  | bare {x : Str} {c : Value} {m : Value → Option Bool} {s : Exn → RS} {b₀ : Stmt} {suite : List Stmt} {np pos' : Pos} {hds : List ExceptHandler} {l : List Hd} (hc : Names X x c) (hm : ∀ cls b, m cls = some b → PySem.W.exmOne X.K cls c = some b)
      (hsu : PXS X none (b₀ :: suite) s) (r : HdD X hds l) : HdD X (.ExceptHandler (some (.Name x np)) none (b₀ :: suite) pos' :: hds) (⟨m, none, s⟩ :: l)
  | named {x n : Str} (i : Nat) {c : Value} {m : Value → Option Bool} {s : Exn → RS} {b₀ : Stmt} {suite : List Stmt} {np pos' : Pos} {hds : List ExceptHandler} {l : List Hd} (hc : Names X x c) (hm : ∀ cls b, m cls = some b → PySem.W.exmOne X.K cls c = some b)
      (hi : X.N[i]? = some n) (hln : X.env.kindOf n = some .local) (hsu : PXS X (some i) (b₀ :: suite) s) (r : HdD X hds l) : HdD X (.ExceptHandler (some (.Name x np)) (some n) (b₀ :: suite) pos' :: hds) (⟨m, some i, s⟩ :: l)
theorem HdD.lift {X : Cx} {hds : List ExceptHandler} {l : List Hd} (h : HdD X hds l) : ∃ l' : List Cl, HdX X hds l' ∧ ∀ (W : WX) (D : Ends) (γ : Hp) (α : List Addr) (F : Hp) (x : Exn) (δ : Sl) (μ : List Ob), FinS X.K γ α F (handle l x δ μ) D W →
    ∀ α' F' H' σ' c dd, α <+: α' → Same F F' → Wd X.K γ α' F' H' μ → SlIs X.K α' F' σ' δ → XIs X.K α' F' x c dd → wMix X.K X.N.length W D l' c dd σ' H' := by
  induction h with
  | nil => exact ⟨[], .nil, fun W D γ α F x δ μ q α' F' H' σ' c dd p e w s hx => q α' F' H' σ' c dd p e w s hx⟩
  | @bare x0 c0 m s b₀ suite np pos' hds l hc hm hsu r ih =>
    obtain ⟨l', h1, h2⟩ := ih
    refine ⟨⟨c0, none, tXS X.K none s⟩ :: l', .bare hc hsu h1, fun W D γ α F x δ μ q α' F' H' σ' c dd p e w sl hx => ?_⟩
    unfold handle at q
    dsimp only at q
    obtain ⟨rfl, hx2⟩ := id hx
    cases hm1 : m x.cls with
    | none => rw [hm1] at q; exact q.elim
    | some b =>
      rw [hm1] at q
      refine ⟨b, hm _ _ hm1, fun hb hl a na => ?_, fun hb => ?_⟩
      · subst hb
        refine ⟨γ, α', F', μ, δ, x, w, sl, hx, (fun j hj => by cases hj), ?_⟩
        have q : FinS X.K γ α F (unS none (s x δ μ)) D W := q
        cases hs : s x δ μ with
        | nx δ2 μ2 => rw [hs] at q; exact fun α2 F2 H2 σ2 p2 e2 w2 s2 => q α2 F2 H2 σ2 (p.trans p2) (e.trans e2) w2 s2
        | rt d2 μ2 => rw [hs] at q; exact fun α2 F2 H2 v2 p2 e2 w2 s2 => q α2 F2 H2 v2 (p.trans p2) (e.trans e2) w2 s2
        | _ => rw [hs] at q; exact q.elim
      · subst hb
        exact h2 W D γ α F x δ μ q α' F' H' σ' _ dd p e w sl hx
  | @named x0 n i c0 m s b₀ suite np pos' hds l hc hm hi hln hsu r ih =>
    obtain ⟨l', h1, h2⟩ := ih
    refine ⟨⟨c0, some i, tXS X.K (some i) s⟩ :: l', .named hc hi hln hsu h1, fun W D γ α F x δ μ q α' F' H' σ' c dd p e w sl hx => ?_⟩
    unfold handle at q
    dsimp only at q
    obtain ⟨rfl, hx2⟩ := id hx
    cases hm1 : m x.cls with
    | none => rw [hm1] at q; exact q.elim
    | some b =>
      rw [hm1] at q
      refine ⟨b, hm _ _ hm1, fun hb hl a na => ?_, fun hb => ?_⟩
      · subst hb
        have il : i < σ'.length := by
          rw [hl]
          exact (List.getElem?_eq_some_iff.mp hi).1
        have sl2 : SlIs X.K α' F' (σ'.set i (some (.ref a))) (δ.set i none) := by
          refine ⟨by rw [List.length_set, List.length_set]; exact sl.len, fun j e2 q2 => ?_⟩
          by_cases hj : j = i
          · subst hj
            rw [List.getElem?_set_self (by rw [← sl.len]; exact il)] at q2
            cases q2
          · rw [List.getElem?_set_ne (Ne.symm hj)] at q2 ⊢
            exact sl.at_ j e2 q2
        refine ⟨γ, α', F', μ, δ.set i none, x, w, sl2, hx, fun j hj => by cases hj; exact List.getElem?_set_self il, ?_⟩
        have q : FinS X.K γ α F (unS (some i) (s x (δ.set i none) μ)) D W := q
        cases hs : s x (δ.set i none) μ with
        | nx δ2 μ2 => rw [hs] at q; exact fun α2 F2 H2 σ2 p2 e2 w2 s2 => q α2 F2 H2 (σ2.set i none) (p.trans p2) (e.trans e2) w2 (s2.unset i)
        | rt d2 μ2 => rw [hs] at q; exact fun α2 F2 H2 v2 p2 e2 w2 s2 => q α2 F2 H2 v2 (p.trans p2) (e.trans e2) w2 s2
        | _ => rw [hs] at q; exact q.elim
      · subst hb
        exact h2 W D γ α F x δ μ q α' F' H' σ' _ dd p e w sl hx
theorem psd_try {X : Cx} {W : WX} {k : Nat} {body : List Stmt} {h₀ : ExceptHandler} {hds : List ExceptHandler} {l : List Hd} {pos : Pos} {fb : RS} (g : Good X W k) (hb : ∀ (W' : WX) (pn : List (Addr × Obj)) (xe : Value → Shared → Prop), Good (X.tr pn xe) W' k → PSDs (X.tr pn xe) W' body fb)
    (hh : HdD X (h₀ :: hds) l) (hs : X.stack = X.env :: X.outer := by rfl) (hf : X.env.frame = some X.env.locals := by rfl) : PSD X W (.Try body (h₀ :: hds) [] [] pos) (rTry fb l) := by
  obtain ⟨l', h1, h2⟩ := hh.lift
  refine ⟨fun pins s σ H D I hq => ?_⟩
  refine (ps_try_mix (tb := fun W' => tSD X.K W' fb) hs hf g.nd g.tk (fun W' pn xe tk po => hb W' pn xe ⟨g.hr, g.calm, g.nd, tk, po⟩) h1).run pins s σ H D I ?_
  obtain ⟨γ, α, F, μ, δ, w, s1, q⟩ := hq
  refine ⟨γ, α, F, μ, δ, w, s1, ?_⟩
  unfold rTry at q
  cases hr : fb δ μ with
  | exc x δ1 μ1 =>
    rw [hr] at q
    intro α' F' H' σ' c dd p e w' s' hx
    exact h2 W D γ α F x δ1 μ1 q α' F' H' σ' c dd p e w' s' hx
  | nx δ1 μ1 => rw [hr] at q; exact q
  | rt d1 μ1 => rw [hr] at q; exact q
  | bk δ1 μ1 => rw [hr] at q; exact q
  | ct δ1 μ1 => rw [hr] at q; exact q
  | bad => rw [hr] at q; exact q
end DL

/-! The data layer, u: expressions and statements of an except suite. -/
namespace DL
open PySem L2 PyProof.Rows
abbrev GX := Exn → Option D
def tXE (K : PySem.W.Frag) (i : Option Nat) (g : GX) (a : Addr) (cls : Value) (d : Option Addr) : TE := fun σ H Q => ∃ γ α F μ x dd, Wd K γ α F H μ ∧ XIs K α F x cls d ∧ (∀ j, i = some j → σ[j]? = some (some (.ref a))) ∧ g x = some dd ∧
  ∀ α' F' H' v, α <+: α' → Same F F' → Wd K γ α' F' H' μ → Is K α' F' v dd → Q v H'
def PXE (X : Cx) (i : Option Nat) (e : Expr) (g : GX) : Prop := ∀ (a : Addr) (oe : Obj) (cls : Value) (d : Option Addr) (pn : List (Addr × Obj)), Zc cls d oe → (∃ vs, oe.data = .fields vs) → PE (X.suite a ((a, oe) :: pn)) e (tXE X.K i g a cls d)
def gC (d : D) : GX := fun _ => some d
section
variable {X : Cx} {i : Option Nat} {e e1 e2 : Expr} {g g1 g2 : GX} {pos p p1 p2 : Pos} {nm f : Str} {j : Nat} {C : Addr}
theorem pxe_c {v : V} {d : D} (h : ∀ Y : Cx, PE Y e (tC v)) (hv : ∀ K α F, Is K α F v d) : PXE X i e (gC d) := fun a oe cls dd pn _ _ =>
  pe_weak (h _) fun σ H Q ⟨γ, α, F, μ, x, d2, w, _, _, hg, q⟩ => by
    cases hg
    exact q α F H v (List.prefix_refl _) (Same.refl F) w (hv _ _ _)
theorem pxe_int {k : Int} {n : Nat} : PXE X i (.Constant (.int k) n pos) (gC (.int k)) := pxe_c (fun _ => pe_int) fun _ _ _ => .int k
theorem pxe_str {k : Str} {n : Nat} : PXE X i (.Constant (.str k) n pos) (gC (.str k)) := pxe_c (fun _ => pe_str) fun _ _ _ => .str k
theorem pxe_non {n : Nat} : PXE X i (.Constant .none n pos) (gC .non) := pxe_c (fun _ => pe_non) fun _ _ _ => .non
theorem pxe_bl {k : Bool} {n : Nat} : PXE X i (.Constant (.bool k) n pos) (gC (.bl k)) := pxe_c (fun _ => pe_bl) fun _ _ _ => .bl k
/-- err.f -/
def gFld (C : Addr) (f : Str) : GX := fun x => if x.cls = .ref C then lookD x.fs x.xs f else none
theorem pxe_fld (T : XfC X.K C) (hno : PySem.W.findIn X.K (.ref C) f = some none) (hj : X.N[j]? = some nm := by rfl) (hl : X.env.scope.names.lookup nm = some .local := by rfl) (hd : (nm == ("__debug__" : Str)) = false := by decide) (hcd : (nm == ("__classdict__" : Str)) = false := by decide)
    (hb : attributeBase (.Name nm p) f X.env (eval (.Name nm p) X.env) = eval (.Name nm p) X.env := by rfl) : PXE X (some j) (.Attribute (.Name nm p) f pos) (gFld C f) := fun a oe cls dd pn hz hf =>
  pe_weak (pe_xf T hno hz hf (pe_var (i := j) hj (.inl hl) hd hcd) hb) fun σ H Q ⟨γ, α, F, μ, x, d2, w, hx, hs, hg, q⟩ => by
    unfold gFld at hg
    split at hg
    · rename_i hcx
      refine ⟨.ref a, hs j rfl, rfl, ?_⟩
      obtain ⟨h1, h2⟩ := hx
      refine ⟨h1.trans hcx, ?_⟩
      rcases h2 with ⟨_, h3, h4⟩ | ⟨d, fv, rfl, h4, h5, h6⟩
      · rw [h3, h4] at hg
        simp [lookD] at hg
      · rw [← h5] at hg
        obtain ⟨v, k1, k2⟩ := look_val' h6 hg
        exact ⟨d, fv, v, rfl, w.sub _ _ h4, by rw [lookup_val]; exact k1, q α F H v (List.prefix_refl _) (Same.refl F) w k2⟩
    · cases hg
/-- (a, b) -/
def gTup2 (g1 g2 : GX) : GX := fun x => (g1 x).bind fun d => (g2 x).bind fun e => some (.tup [d, e])
theorem pxe_tup2 {n : Nat} (h1 : PXE X i e1 g1) (h2 : PXE X i e2 g2) (hs1 : starEach [e1, e2] X.env = (false, eval e1 X.env) :: starEach [e2] X.env := by rfl) (hs2 : starEach [e2] X.env = (false, eval e2 X.env) :: starEach [] X.env := by rfl) : PXE X i (.Tuple [e1, e2] n pos) (gTup2 g1 g2) := fun a oe cls dd pn hz hf =>
  pe_weak (pe_tup (pa_cons (h1 a oe cls dd pn hz hf) (pa_cons (h2 a oe cls dd pn hz hf) pa_nil hs2) hs1)) fun σ H Q ⟨γ, α, F, μ, x, d2, w, hx, hs, hg, q⟩ => by
    unfold gTup2 at hg
    cases k1 : g1 x with
    | none => rw [k1] at hg; cases hg
    | some da =>
      cases k2 : g2 x with
      | none => rw [k1, k2] at hg; cases hg
      | some db =>
        rw [k1, k2] at hg
        cases hg
        refine ⟨γ, α, F, μ, x, da, w, hx, hs, k1, fun α1 F1 H1 v1 p1 s1 w1 i1 => ?_⟩
        refine ⟨γ, α1, F1, μ, x, db, w1, hx.mono p1 s1, hs, k2, fun α2 F2 H2 v2 p2 s2 w2 i2 => ?_⟩
        refine ⟨by rw [sizeLine_eq]; simp, fun pa np => ?_⟩
        have fr := w2.sub.free np
        refine q α2 (upd F2 pa (.tup [v1, v2])) _ _ (p1.trans p2) ((s1.trans s2).trans (same_new fr)) (w2.lay np) (.tup (.inl (.inl upd_same)) (.cons ((i1.mono p2 s2).mono (List.prefix_refl _) (same_new fr)) (.cons (i2.mono (List.prefix_refl _) (same_new fr)) .nil)))
/-- a if isinstance(err, C) else b, err of a class D that is told of -/
theorem pt_isX {y : Str} {cv : Value} {v : V} {ok : Value → Bool} (hN : ∀ cls, ok cls = true → ∃ D, cls = .ref D ∧ ExcC X.K D ∧ PySem.W.kitOne X.K (.ref D) cv = some true) (hm : X.mg "isinstance" = none) (hy : Gl X y) (hmy : X.mg y = some cv) (rv : RelV v cv) (ru : ∀ u, RelV v u → u = cv)
    (hdy : (y == ("__debug__" : Str)) = false) (hj : X.N[j]? = some nm) (hl : X.env.scope.names.lookup nm = some .local) (hd : (nm == ("__debug__" : Str)) = false) (hcd : (nm == ("__classdict__" : Str)) = false) (hg : Gl X "isinstance") {a : Addr} {oe : Obj} {cls : Value} {d : Option Addr} {pn : List (Addr × Obj)} (hz : Zc cls d oe) (hf : ∃ vs, oe.data = .fields vs)
    (he : starEach [.Name nm p1, .Name y p2] X.env = (false, eval (.Name nm p1) X.env) :: starEach [.Name y p2] X.env) (he2 : starEach [.Name y p2] X.env = (false, eval (.Name y p2) X.env) :: starEach [] X.env) (hpl : (backTo pos (starEach [.Name y p2] X.env)).any (·.1) = false)
    (hev : ∀ whole, isTrue (.Call (.Name "isinstance" p) [.Name nm p1, .Name y p2] [] pos) X.env whole = (do let v ← whole; standAt (Expr.Call (.Name "isinstance" p) [.Name nm p1, .Name y p2] [] pos).pos; holding [v] (truthy v))) :
    PT (X.suite a ((a, oe) :: pn)) (.Call (.Name "isinstance" p) [.Name nm p1, .Name y p2] [] pos) (fun σ H Q => ok cls = true ∧ σ[j]? = some (some (.ref a)) ∧ (∀ dd, d = some dd → ∃ fv, H dd = some (.xd fv)) ∧ Q true H) := by
  have hc : CallR (X.suite a ((a, oe) :: pn)) (.builtin "isinstance") (fun xs H Q => xs = [.ref a, v] ∧ ok cls = true ∧ (∀ dd, d = some dd → ∃ fv, H dd = some (.xd fv)) ∧ Q (.bl true) H) := by
    intro pins s σ H xs us Q I r h
    obtain ⟨rfl, ho, hdd, q⟩ := h
    cases r with
    | cons rx rr =>
      cases rr with
      | cons rt rr =>
        cases rr
        cases rx
        have ec := ru _ rt
        subst ec
        obtain ⟨D, rfl, hC, hk⟩ := hN _ ho
        exact call_isX hC hz hf I hdd hk fun s' J => ⟨.bl true, H, J, rfl, q⟩
  refine pt_weak (pt_val (pe_callB hc hg hm PyProof.Rows.boot_isinstance (pa_cons (pe_var (i := j) hj (.inl hl) hd hcd) (pa_cons (pe_glob hy hmy rv hdy) pa_nil he2) he) (by decide) (by decide) he hpl) hev) fun σ H Q ⟨ho, hs, hdd, q⟩ => ?_
  exact ⟨.ref a, hs, rfl, ho, hdd, true, rfl, q⟩
def gIs (ok : Value → Bool) (g1 : GX) : GX := fun x => if ok x.cls = true then g1 x else none
theorem pxe_if {y : Str} {c : Addr} {ok : Value → Bool} (hN : ∀ cls, ok cls = true → ∃ D, cls = .ref D ∧ ExcC X.K D ∧ PySem.W.kitOne X.K (.ref D) (.ref c) = some true) (hm : X.mg "isinstance" = none) (hmy : X.mg y = some (.ref c)) (h1 : PXE X (some j) e1 g1)
    (hy : Gl X y := by rfl) (hdy : (y == ("__debug__" : Str)) = false := by decide) (hj : X.N[j]? = some nm := by rfl) (hl : X.env.scope.names.lookup nm = some .local := by rfl) (hd : (nm == ("__debug__" : Str)) = false := by decide) (hcd : (nm == ("__classdict__" : Str)) = false := by decide) (hg : Gl X "isinstance" := by rfl)
    (he : starEach [.Name nm p1, .Name y p2] X.env = (false, eval (.Name nm p1) X.env) :: starEach [.Name y p2] X.env := by rfl) (he2 : starEach [.Name y p2] X.env = (false, eval (.Name y p2) X.env) :: starEach [] X.env := by rfl) (hpl : (backTo pos (starEach [.Name y p2] X.env)).any (·.1) = false := by rfl)
    (hev : ∀ whole, isTrue (.Call (.Name "isinstance" p) [.Name nm p1, .Name y p2] [] pos) X.env whole = (do let v ← whole; standAt (Expr.Call (.Name "isinstance" p) [.Name nm p1, .Name y p2] [] pos).pos; holding [v] (truthy v)) := by intro _; rfl) {pos2 : Pos} :
    PXE X (some j) (.IfExp (.Call (.Name "isinstance" p) [.Name nm p1, .Name y p2] [] pos) e1 e2 pos2) (gIs ok g1) := fun a oe cls dd pn hz hf =>
  pe_weak (pe_ifExp (pt_isX (v := .ref c) hN hm hy hmy rfl (fun u r => r) hdy hj hl hd hcd hg hz hf he he2 hpl hev) (h1 a oe cls dd pn hz hf) (tb := fun _ _ _ => False) ⟨fun _ _ _ _ _ _ z => z.elim⟩) fun σ H Q ⟨γ, α, F, μ, x, d2, w, hx, hs, hg, q⟩ => by
    unfold gIs at hg
    split at hg
    · rename_i hok
      refine ⟨by rw [hx.1]; exact hok, hs j rfl, fun d3 hd3 => ?_, ⟨γ, α, F, μ, x, d2, w, hx, hs, hg, q⟩⟩
      rcases hx.2 with ⟨h3, _⟩ | ⟨d4, fv, h3, h4, _⟩
      · rw [h3] at hd3; cases hd3
      · rw [h3] at hd3; cases hd3
        exact ⟨fv, w.sub _ _ h4⟩
    · cases hg
/-- n = e | return e -/
def sSet (n : Nat) (g : GX) : Exn → RS := fun x δ μ => match g x with
  | some d => .nx (δ.set n (some d)) μ
  | none => .bad
def sRet (g : GX) : Exn → RS := fun x _ μ => match g x with
  | some d => .rt d μ
  | none => .bad
theorem pxs_set (n : Nat) {y : Str} {pos' : Pos} (hN : X.N.Nodup) (h : PXE X i e g) (hne : ∀ k, i = some k → k ≠ n := by simp) (hi : X.N[n]? = some y := by rfl) (hx : X.env.scope.names.lookup y = some .local := by rfl) (hs : swapsWith e (some (.Name y pos')) pos.line X.env = pure false := by rfl) : PXS X i [.Assign [.Name y pos'] e pos] (sSet n g) := fun a oe cls d pn hz hf => by
  refine pss_one (ps_weak (ps_set (i := n) hN hi (.inl hx) (h a oe cls d pn hz hf) hs (.inr hx)) fun D σ H ⟨γ, α, F, μ, δ, x, w, s, hx, hsl, q⟩ => ?_)
  unfold sSet at q
  cases hg : g x with
  | none => rw [hg] at q; exact q.elim
  | some dd =>
    rw [hg] at q
    exact ⟨γ, α, F, μ, x, dd, w, hx, hsl, hg, fun α' F' H' v p e w' i' => q α' F' H' _ p e w' ((s.mono p e).set n i')⟩
theorem pxs_ret (h : PXE X i e g) : PXS X i [.Return (some e) pos] (sRet g) := fun a oe cls d pn hz hf => by
  refine pss_one (ps_weak (ps_ret (h a oe cls d pn hz hf)) fun D σ H ⟨γ, α, F, μ, δ, x, w, s, hx, hsl, q⟩ => ?_)
  unfold sRet at q
  cases hg : g x with
  | none => rw [hg] at q; exact q.elim
  | some dd =>
    rw [hg] at q
    exact ⟨γ, α, F, μ, x, dd, w, hx, hsl, hg, fun α' F' H' v p e w' i' => q α' F' H' v p e w' i'⟩
end
/-! ### which clauses take which classes -/
/-- the classes D that a clause of the class c is asked of, with the answers -/
def mOf (t : List (Addr × Bool)) : Value → Option Bool := fun v => match v with
  | .ref a => t.lookup a
  | _ => none
theorem mof_ok {K : PySem.W.Frag} {c : Value} {t : List (Addr × Bool)} (h : ∀ p ∈ t, PySem.W.exmOne K (.ref p.1) c = some p.2) : ∀ cls b, mOf t cls = some b → PySem.W.exmOne K cls c = some b := fun cls b e => by
  unfold mOf at e
  cases cls with
  | ref a =>
    have : ∀ {l : List (Addr × Bool)}, l.lookup a = some b → (a, b) ∈ l := by
      intro l
      induction l with
      | nil => intro z; cases z
      | cons q l ih =>
        intro z
        rw [List.lookup_cons] at z
        split at z
        · rename_i hq
          have hq := eq_of_beq hq
          cases z
          subst hq
          exact List.mem_cons_self
        · exact List.mem_cons_of_mem _ (ih z)
    exact h _ (this e)
  | _ => cases e
theorem kit_sub {K : PySem.W.Frag} {D C : Addr} (h1 : D ≠ C) (h : PySem.W.kitCls K (.ref D) (.ref C) = some true) : PySem.W.kitOne K (.ref D) (.ref C) = some true := by
  unfold PySem.W.kitOne
  rw [if_neg (by simpa using h1)]
  exact h
end DL

/-! The data layer, v: contracts that leave nothing behind; lists that stand still from now on. -/
namespace DL
open PySem L2 PyProof.Rows
open Classical in
/-- what was made on the way may be forgotten -/
def Trim (μ : List Ob) (ds : List D) (μe : List Ob) : Prop := μ.length ≤ μe.length ∧ scL μ.length ds = true ∧ ∀ (k : Nat) o, k < μ.length → μe[k]? = some o → μ[k]? = some o ∨ o.sc μ.length = true
open Classical in
/-- the contract that is the body, without what it made on the way -/
noncomputable def ctT (m : Nat) (fb : RS) : Ct := fun ds μ => match fb (ds.map some ++ List.replicate m none) μ with
  | .rt d μe => if Trim μ [d] μe then .ok d (μe.take μ.length) else .bad
  | .nx _ μe => if Trim μ [] μe then .ok .non (μe.take μ.length) else .bad
  | .exc x _ μe => if Trim μ x.xs μe then .exc x (μe.take μ.length) else .bad
  | _ => .bad
theorem Trim.keep {μ μe : List Ob} {ds : List D} (h : Trim μ ds μe) : Keep μ (μe.take μ.length) ds μe := by
  obtain ⟨h1, h2, h3⟩ := h
  have hl : (μe.take μ.length).length = μ.length := by rw [List.length_take]; omega
  refine .inr ⟨⟨μe.drop μ.length, (List.take_append_drop _ _).symm⟩, by rw [hl]; exact Nat.le_refl _, by rw [hl]; exact h2, fun k o e => ?_⟩
  have hk : k < μ.length := by
    have := (List.getElem?_eq_some_iff.mp e).1
    rw [hl] at this
    exact this
  rw [List.getElem?_take_of_lt hk] at e
  rw [hl]
  exact h3 k o hk e
theorem covs_t {N ps : List Str} {fb : RS} : Covs N ps (ctT (N.length - ps.length) fb) fb := fun ds μ hl => by
  unfold ctT
  cases h : fb (ds.map some ++ List.replicate (N.length - ps.length) none) μ with
  | rt d μ1 =>
    dsimp only
    split
    · rename_i t
      exact ⟨rfl, t.keep⟩
    · trivial
  | nx δ μ1 =>
    dsimp only
    split
    · rename_i t
      exact ⟨rfl, t.keep⟩
    · trivial
  | exc x δ μ1 =>
    dsimp only
    split
    · rename_i t
      exact ⟨rfl, t.keep⟩
    · trivial
  | _ => trivial
section
variable {m : Nat} {fb : RS} {ds : List D} {μ μ' j : List Ob} {d : D} {x : Exn} {δ : Sl}
/-- what stands at the old places is old or without new places -/
def Old (μ μ' : List Ob) : Prop := μ'.length = μ.length ∧ ∀ (k : Nat) o, k < μ.length → μ'[k]? = some o → μ[k]? = some o ∨ o.sc μ.length = true
theorem Old.refl : Old μ μ := ⟨rfl, fun _ _ _ h => .inl h⟩
theorem Old.trim {es : List D} (o : Old μ μ') (h : scL μ.length es = true) : Trim μ es (μ' ++ j) := by
  refine ⟨by rw [List.length_append, o.1]; omega, h, fun k ob hk e => ?_⟩
  rw [List.getElem?_append_left (by rw [o.1]; exact hk)] at e
  exact o.2 k ob hk e
theorem ctT_rt (h : fb (ds.map some ++ List.replicate m none) μ = .rt d (μ' ++ j)) (o : Old μ μ') (hd : d.sc μ.length = true) : ctT m fb ds μ = .ok d μ' := by
  unfold ctT
  rw [h]
  dsimp only
  rw [if_pos (o.trim (by rw [scL, hd]; rfl)), List.take_left' o.1]
theorem ctT_nx (h : fb (ds.map some ++ List.replicate m none) μ = .nx δ (μ' ++ j)) (o : Old μ μ') : ctT m fb ds μ = .ok .non μ' := by
  unfold ctT
  rw [h]
  dsimp only
  rw [if_pos (o.trim (by rw [scL])), List.take_left' o.1]
theorem ctT_ex (h : fb (ds.map some ++ List.replicate m none) μ = .exc x δ (μ' ++ j)) (o : Old μ μ') (hd : scL μ.length x.xs = true) : ctT m fb ds μ = .exc x μ' := by
  unfold ctT
  rw [h]
  dsimp only
  rw [if_pos (o.trim hd), List.take_left' o.1]
/-- .. of a def that changes nothing -/
theorem pu_rt (h : ∃ j, fb (ds.map some ++ List.replicate m none) μ = .rt d (μ ++ j)) (hd : d.sc 0 = true) : ctT m fb ds μ = .ok d μ :=
  let ⟨j, h⟩ := h; ctT_rt h .refl (sc_le (Nat.zero_le _) d hd)
theorem pu_nx (h : ∃ δ j, fb (ds.map some ++ List.replicate m none) μ = .nx δ (μ ++ j)) : ctT m fb ds μ = .ok .non μ :=
  let ⟨δ, j, h⟩ := h; ctT_nx h .refl
theorem pu_ex (h : ∃ δ j, fb (ds.map some ++ List.replicate m none) μ = .exc x δ (μ ++ j)) (hd : scL 0 x.xs = true) : ctT m fb ds μ = .exc x μ :=
  let ⟨δ, j, h⟩ := h; ctT_ex h .refl (scL_le (Nat.zero_le _) _ hd)
end
section
variable {P : Program} {w : World} {K : PySem.W.Frag} {mg : Str → Option Value} {base : Heap} {x : Str} {st : Stmt} {ps : List Str} {k : Nat}
/-- a def of which nothing is promised -/
theorem Df.cal0 (d : Df K mg x st ps) : Cal P w K mg base k x ps.length (fun _ _ => .bad) := by
  obtain ⟨f, fd, F, hb, hm, kp⟩ := d.ex
  exact ⟨f, fd, ps, rfl, ⟨fun vs H Q E h => h.1, fun A outer s H args us vs Q E _ _ _ _ h => by
    obtain ⟨_, _, _, _, _, _, _, _, q⟩ := h
    exact q.elim⟩, hm, kp, hb⟩
end

/-! ### standing still -/
section
variable {X : Cx} {W : WX} {e a : Expr} {st : Stmt} {f fa : RE} {g : RS}
/-- a list stands still from now on -/
def rFzl (f : RE) : RE := fun δ μ => (f δ μ).bind fun d μ1 => match d with
  | .loc k => match μ1[k]? with
    | some (.lst xs) => .ok (.lst xs) (μ1.set k .dead)
    | _ => .bad
  | _ => .bad
theorem wd_fzl {K : PySem.W.Frag} {γ : Hp} {α : List Addr} {F H : Hp} {μ : List Ob} {k : Nat} {xs : List D} {v : V} (w : Wd K γ α F H μ) (hv : Is K α F v (.loc k)) (hm : μ[k]? = some (.lst xs)) :
    ∃ F', Same F F' ∧ Wd K γ α F' H (μ.set k .dead) ∧ ∀ u, Is K α F u (.loc k) → Is K α F' u (.lst xs) := by
  cases hv with
  | loc ha =>
    rename_i a
    obtain ⟨vs, h1, h2⟩ := w.obj k a _ ha hm
    have hn : F a = none := w.apart k a _ ha hm (by intro z; cases z)
    refine ⟨upd F a (.lst vs), same_new hn, ?_, fun u hu => ?_⟩
    · have := w.frz (o := .lst vs) ha hm (by intro z; cases z)
      rw [upd_id h1] at this
      exact this
    · cases hu with
      | loc hb =>
        rw [ha] at hb
        cases hb
        exact .lst upd_same (h2.mono (List.prefix_refl _) (same_new hn))
theorem pd_fzl (h : PD X W e f) : PD X W e (rFzl f) := pe_weak h fun σ H Q ⟨γ, α, F, μ, δ, w, s, q⟩ => tD_go w s q fun d μ1 α1 F1 H1 v p1 e1 w1 s1 hv q1 => by
  cases d with
  | loc k =>
    simp only at q1
    cases hm : μ1[k]? with
    | none => rw [hm] at q1; exact q1.elim
    | some ob =>
      rw [hm] at q1
      cases ob with
      | lst xs =>
        obtain ⟨F', sF, w', hi⟩ := wd_fzl w1 hv hm
        exact q1 α1 F' H1 (List.prefix_refl _) sF w' v (hi v hv)
      | _ => exact q1.elim
  | _ => exact q1.elim
/-- behind a statement the list in slot i stands still -/
def rFzS (i : Nat) (g : RS) : RS := fun δ μ => match g δ μ with
  | .nx δ1 μ1 => (match δ1[i]? with
    | some (some (.loc k)) => (match μ1[k]? with
      | some (.lst xs) => .nx (δ1.set i (some (.lst xs))) (μ1.set k .dead)
      | _ => .bad)
    | _ => .bad)
  | r => r
theorem psd_fzl (i : Nat) (h : PSD X W st g) : PSD X W st (rFzS i g) := ps_weak h fun D σ H ⟨γ, α, F, μ, δ, w, s, q⟩ => by
  refine ⟨γ, α, F, μ, δ, w, s, ?_⟩
  unfold rFzS at q
  cases hg : g δ μ with
  | nx δ1 μ1 =>
    rw [hg] at q
    dsimp only at q
    cases hi : δ1[i]? with
    | none => rw [hi] at q; exact q.elim
    | some o =>
      cases o with
      | none => rw [hi] at q; exact q.elim
      | some d =>
        rw [hi] at q
        cases d with
        | loc k =>
          dsimp only at q
          cases hm : μ1[k]? with
          | none => rw [hm] at q; exact q.elim
          | some ob =>
            rw [hm] at q
            cases ob with
            | lst xs =>
              intro α' F' H' σ' p e w' s'
              obtain ⟨v, hv1, hv2⟩ := s'.at_ i _ hi
              obtain ⟨F2, sF, w2, hk⟩ := wd_fzl w' hv2 hm
              refine q α' F2 H' σ' p (e.trans sF) w2 ⟨by rw [List.length_set]; exact s'.len, fun j d2 q2 => ?_⟩
              by_cases hj : j = i
              · subst hj
                have hl : j < δ1.length := (List.getElem?_eq_some_iff.mp hi).1
                rw [List.getElem?_set_self hl] at q2
                cases q2
                exact ⟨v, hv1, hk v hv2⟩
              · rw [List.getElem?_set_ne (Ne.symm hj)] at q2
                obtain ⟨u, k1, k2⟩ := s'.at_ j d2 q2
                exact ⟨u, k1, k2.mono (List.prefix_refl _) sF⟩
            | _ => exact q.elim
        | _ => exact q.elim
  | rt d μ1 => rw [hg] at q; exact q
  | exc x δ1 μ1 => rw [hg] at q; exact q
  | bk δ1 μ1 => rw [hg] at q; exact q
  | ct δ1 μ1 => rw [hg] at q; exact q
  | bad => rw [hg] at q; exact q
/-- isinstance(a, (T1, T2)) -/
def isT2 (T1 T2 : String) (d : D) : Option Bool := match isT T1 d with
  | some true => some true
  | some false => isT T2 d
  | none => none
def rIsTs (q : D → Option Bool) (f : RE) : RE := fun δ μ => (f δ μ).bind fun d μ1 => match q (d.view μ1) with
  | some b => .ok (.bl b) μ1
  | none => .bad
theorem isT_kit {K : PySem.W.Frag} {α : List Addr} {F H : Hp} {v : V} {d : D} {T : String} {b : Bool} (h : Vw K α F H v d) (e : isT T d = some b) : ∃ S, TyX K H v (.type S) ∧ PySem.W.kitOne K (.type S) (.type T) = some b ∧ d.tyS = some S := by
  unfold isT at e
  cases hS : d.tyS with
  | none => rw [hS] at e; cases e
  | some S =>
    rw [hS] at e
    exact ⟨S, tyx_of h hS, kit_ty e, rfl⟩
theorem pd_isTs (T1 T2 : String) {n : Nat} {p p1 p2 p3 pos : Pos} (hm : X.mg "isinstance" = none) (m1 : X.mg T1 = none) (m2 : X.mg T2 = none) (b1 : bootBuiltins T1 = some (.type T1)) (b2 : bootBuiltins T2 = some (.type T2)) (ha : PD X W a fa)
    (g1 : Gl X T1 := by rfl) (g2 : Gl X T2 := by rfl) (n1 : (T1 : Str) ≠ "__name__" := by decide) (n2 : (T2 : Str) ≠ "__name__" := by decide) (d1 : ((T1 : Str) == ("__debug__" : Str)) = false := by decide) (d2 : ((T2 : Str) == ("__debug__" : Str)) = false := by decide) (hg : Gl X "isinstance" := by rfl)
    (hs1 : starEach [.Name T1 p1, .Name T2 p2] X.env = (false, eval (.Name T1 p1) X.env) :: starEach [.Name T2 p2] X.env := by rfl) (hs2 : starEach [.Name T2 p2] X.env = (false, eval (.Name T2 p2) X.env) :: starEach [] X.env := by rfl)
    (hs3 : starEach [.Tuple [.Name T1 p1, .Name T2 p2] n p3] X.env = (false, eval (.Tuple [.Name T1 p1, .Name T2 p2] n p3) X.env) :: starEach [] X.env := by rfl)
    (he : starEach [a, .Tuple [.Name T1 p1, .Name T2 p2] n p3] X.env = (false, eval a X.env) :: starEach [.Tuple [.Name T1 p1, .Name T2 p2] n p3] X.env := by rfl) (hpl : (backTo pos (starEach [.Tuple [.Name T1 p1, .Name T2 p2] n p3] X.env)).any (·.1) = false := by rfl) :
    PD X W (.Call (.Name "isinstance" p) [a, .Tuple [.Name T1 p1, .Name T2 p2] n p3] [] pos) (rIsTs (isT2 T1 T2) fa) := by
  refine pe_weak (pe_callB call_isiT hg hm PyProof.Rows.boot_isinstance (pa_cons ha (pa_cons (pe_tup (pa_cons (pe_bltn g1 m1 b1 (v := .ty T1) rfl n1 d1) (pa_cons (pe_bltn g2 m2 b2 (v := .ty T2) rfl n2 d2) pa_nil hs2) hs1)) pa_nil hs3) he) (by decide) (by decide) he hpl) fun σ H Q ⟨γ, α, F, μ, δ, w, s, q⟩ => ?_
  refine tD_go w s q fun d μ1 α1 F1 H1 v p1 e1 w1 s1 hv q1 => ?_
  refine ⟨by rw [sizeLine_eq]; simp, fun tp np => ?_⟩
  cases hq : isT2 T1 T2 (d.view μ1) with
  | none => rw [hq] at q1; exact q1.elim
  | some b =>
    rw [hq] at q1
    have vw := (w1.lay0 (o := .tup [.ty T1, .ty T2]) np).view hv
    have fin : Q (.bl b) (upd H1 tp (.tup [.ty T1, .ty T2])) := q1 α1 F1 _ (List.prefix_refl _) (Same.refl F1) (w1.lay0 np) _ (.bl b)
    unfold isT2 at hq
    cases h1 : isT T1 (d.view μ1) with
    | none => rw [h1] at hq; cases hq
    | some b1 =>
      rw [h1] at hq
      obtain ⟨S, t1, k1, hS⟩ := isT_kit vw h1
      refine ⟨v, tp, [.ty T1, .ty T2], .type S, [.type T1, .type T2], b, rfl, upd_same, .cons (.ty T1) (.cons (.ty T2) .nil), t1, ?_, fin⟩
      cases b1 with
      | true =>
        cases hq
        exact kitAny_cons k1 (fun z => nomatch z) fun _ => rfl
      | false =>
        obtain ⟨S2, t2, k2, hS2⟩ := isT_kit vw hq
        rw [hS] at hS2
        cases hS2
        refine kitAny_cons k1 (fun _ => kitAny_cons (b := b) k2 (fun hb => by subst hb; exact kitAny_nil) fun hb => hb) fun z => nomatch z
end
end DL

/-! The data layer, w: short words for printed texts with exceptions. -/
namespace DL
open PySem L2 PyProof.Rows NdefX
section
variable {X : Cx} {W : WX} {K : PySem.W.Frag} {C D : Addr} {c : Value} {l : List (Addr × Bool)} {b : Bool} {pos p : Pos}
theorem m0 : ∀ q ∈ ([] : List (Addr × Bool)), PySem.W.exmOne K (.ref q.1) c = some q.2 := fun _ h => nomatch h
theorem m1 (h : PySem.W.exmOne K (.ref D) c = some b) (r : ∀ q ∈ l, PySem.W.exmOne K (.ref q.1) c = some q.2) : ∀ q ∈ (D, b) :: l, PySem.W.exmOne K (.ref q.1) c = some q.2 := fun q hq => by
  rcases List.mem_cons.mp hq with rfl | hq
  · exact h
  · exact r q hq
def okOf (C : Addr) : Value → Bool := fun v => match v with
  | .ref a => decide (a = C)
  | _ => false
theorem hN_of (h : ExcC K D) (k : PySem.W.kitOne K (.ref D) c = some true) : ∀ cls, okOf D cls = true → ∃ D', cls = .ref D' ∧ ExcC K D' ∧ PySem.W.kitOne K (.ref D') c = some true := fun cls hc => by
  unfold okOf at hc
  cases cls with
  | ref a =>
    have e := of_decide_eq_true hc
    subst e
    exact ⟨a, rfl, h, k⟩
  | _ => cases hc
theorem kit_any (h1 : (PySem.W.clsIn K C).isSome = true) (h2 : PySem.W.typeIn K (.ref C) = some (.type "type")) (h3 : PySem.W.subIn K (.ref D) (.ref C) = some true) : PySem.W.kitOne K (.ref D) (.ref C) = some true := by
  unfold PySem.W.kitOne
  split
  · rfl
  · unfold PySem.W.kitCls
    show (if ((PySem.W.clsIn K C).isSome && PySem.W.typeIn K (.ref C) == some (.type "type")) = true then PySem.W.subIn K (.ref D) (.ref C) else none) = some true
    have e : ((PySem.W.clsIn K C).isSome && PySem.W.typeIn K (.ref C) == some (.type "type")) = true := by rw [h1, h2]; rfl
    rw [if_pos e]
    exact h3
theorem pd_neg {i : Int} {j : Nat} : PD X W (.UnaryOp .USub (.Constant (.int i) j p) pos) (rC (.int (-i))) :=
  pe_weak (pe_un un_neg pe_int) fun σ H Q ⟨γ, α, F, μ, δ, w, s, q⟩ => ⟨i, rfl, q α F H (List.prefix_refl _) (Same.refl F) w _ (.int _)⟩
end
end DL

/-! The data layer, y: loops and comprehensions over typed things. -/
namespace DL
open PySem L2
section
variable {ι σ : Type} {t : Tg} {vs : List Nat} {ft : RT} {fe : RE} {δ : Sl} {μ : List Ob} {body : RS}
/-- a comprehension that changes nothing -/
theorem comp_t (enc : ι → D) (p : ι → Bool) (f : ι → D) : ∀ (xs : List ι) (acc : List D), acc.length + xs.length ≤ 16777216 →
    (∀ x ∈ xs, ∃ δ1, t.set (enc x) (wipeD δ vs) = some δ1 ∧ ft δ1 μ = .ok (p x) μ ∧ (p x = true → fe δ1 μ = .ok (f x) μ)) → compL t vs ft fe (xs.map enc) δ μ acc = .ok (acc ++ (xs.filter p).map f) μ
  | [], acc, _, _ => by simp [compL]
  | x :: xs, acc, hl, h => by
    rw [List.length_cons] at hl
    obtain ⟨δ1, h1, h2, h3⟩ := h x List.mem_cons_self
    have ih := fun acc' hl' => comp_t enc p f xs acc' hl' fun y hy => h y (List.mem_cons_of_mem _ hy)
    rw [List.map_cons, compL, h1]
    simp only [h2]
    cases hp : p x with
    | false =>
      simp only
      rw [ih acc (by omega), List.filter_cons, hp]
      rfl
    | true =>
      simp only [h3 hp]
      rw [if_pos (by omega), ih (acc ++ [f x]) (by simp; omega), List.filter_cons, hp]
      simp
/-- one that draws: M tells the store by what was drawn so far -/
theorem comp_s (M : σ → List Ob) (enc : ι → D) (f : σ → ι → D) (g : σ → ι → σ) (hy : ∀ δ μ, ft δ μ = .ok true μ) : ∀ (xs : List ι) (s : σ) (acc : List D), acc.length + xs.length ≤ 16777216 →
    (∀ s x, ∃ δ1, t.set (enc x) (wipeD δ vs) = some δ1 ∧ fe δ1 (M s) = .ok (f s x) (M (g s x))) →
    compL t vs ft fe (xs.map enc) δ (M s) acc = .ok (acc ++ (xs.foldl (fun (p : List D × σ) x => (p.1 ++ [f p.2 x], g p.2 x)) ([], s)).1) (M (xs.foldl (fun (p : List D × σ) x => (p.1 ++ [f p.2 x], g p.2 x)) ([], s)).2)
  | [], s, acc, _, _ => by simp [compL]
  | x :: xs, s, acc, hl, h => by
    rw [List.length_cons] at hl
    obtain ⟨δ1, h1, h3⟩ := h s x
    rw [List.map_cons, compL, h1]
    simp only [hy, h3]
    rw [if_pos (by omega), comp_s M enc f g hy xs (g s x) (acc ++ [f s x]) (by simp; omega) h]
    have key : ∀ (ys : List ι) (l : List D) (s : σ), (ys.foldl (fun (p : List D × σ) x => (p.1 ++ [f p.2 x], g p.2 x)) (l, s)) = (l ++ (ys.foldl (fun (p : List D × σ) x => (p.1 ++ [f p.2 x], g p.2 x)) ([], s)).1, (ys.foldl (fun (p : List D × σ) x => (p.1 ++ [f p.2 x], g p.2 x)) ([], s)).2) := by
      intro ys
      induction ys with
      | nil => intro l s; simp
      | cons y ys ih =>
        intro l s
        rw [List.foldl_cons, List.foldl_cons, ih (l ++ [f s y]), ih ([] ++ [f s y])]
        simp
    rw [List.foldl_cons, key xs ([] ++ [f s x])]
    simp
/-- a loop whose slots and store are told by a state -/
theorem for_t (S : σ → Sl) (M : σ → List Ob) (enc : ι → D) (step : σ → ι → σ) (P : σ → Prop) : ∀ (xs : List ι) (s : σ), P s →
    (∀ s x, x ∈ xs → P s → P (step s x) ∧ ∃ δ1, t.set (enc x) (S s) = some δ1 ∧ body δ1 (M s) = .nx (S (step s x)) (M (step s x))) → P (xs.foldl step s) ∧ forL t body (xs.map enc) (S s) (M s) = .nx (S (xs.foldl step s)) (M (xs.foldl step s))
  | [], s, hs, _ => ⟨hs, rfl⟩
  | x :: xs, s, hs, h => by
    obtain ⟨h0, δ1, h1, h2⟩ := h s x List.mem_cons_self hs
    obtain ⟨i1, i2⟩ := for_t S M enc step P xs (step s x) h0 fun s y hy hp => h s y (List.mem_cons_of_mem _ hy) hp
    refine ⟨i1, ?_⟩
    rw [List.map_cons, forL]
    simp only [h1, h2]
    exact i2
/-- a loop with an invariant -/
theorem for_i (I : List D → Sl → List Ob → Prop) (h : ∀ d ds δ μ, I (d :: ds) δ μ → ∃ δ1, t.set d δ = some δ1 ∧ ∃ δ2 μ2, body δ1 μ = .nx δ2 μ2 ∧ I ds δ2 μ2) : ∀ ds δ μ, I ds δ μ → ∃ δ' μ', forL t body ds δ μ = .nx δ' μ' ∧ I [] δ' μ'
  | [], δ, μ, hi => ⟨δ, μ, rfl, hi⟩
  | d :: ds, δ, μ, hi => by
    obtain ⟨δ1, h1, δ2, μ2, h2, h3⟩ := h d ds δ μ hi
    obtain ⟨δ', μ', e, q⟩ := for_i I h ds δ2 μ2 h3
    refine ⟨δ', μ', ?_, q⟩
    rw [forL]
    simp only [h1, h2]
    exact e
end
theorem upTo_eq {lo : Int} {n : Nat} : upTo lo n = (List.range n).map fun k => D.int (lo + (k : Nat)) := rfl
theorem upTo_z {n : Nat} : upTo 0 n = (List.range n).map fun k => D.int (k : Nat) := by rw [upTo_eq]; simp
theorem range1_j {fs : RA} {δ : Sl} {μ μ1 : List Ob} {j : Int} (e : fs δ μ = .ok [.int j] μ1) (h0 : 0 ≤ j) (h : j < 1000000) : rRange1 fs δ μ = .ok (upTo 0 j.toNat) μ1 := by
  have v62 : j < 4611686018427387904 := by omega
  have v63 : -4611686018427387904 ≤ j := by omega
  simp [e, v62, v63]
theorem range1_ok {fs : RA} {δ : Sl} {μ μ1 : List Ob} {n : Nat} (e : fs δ μ = .ok [.int (n : Nat)] μ1) (h : n < 1000000) : rRange1 fs δ μ = .ok ((List.range n).map fun k => D.int (k : Nat)) μ1 := by
  have := range1_j e (by omega) (by omega)
  rw [Int.toNat_natCast, upTo_z] at this
  exact this
theorem cut_to {β : Type} {xs : List β} {n : Nat} : cutL xs none (some (n : Int)) = xs.take n := by
  unfold cutL
  rw [HT.sIx_nat]
  show (xs.drop 0).take (min n xs.length - 0) = _
  rw [List.drop_zero, Nat.sub_zero]
  by_cases h : n ≤ xs.length
  · rw [Nat.min_eq_left h]
  · rw [Nat.min_eq_right (by omega), List.take_of_length_le (Nat.le_refl _), List.take_of_length_le (by omega)]
theorem cut_from {β : Type} {xs : List β} {n : Nat} : cutL xs (some (n : Int)) none = xs.drop n := by
  unfold cutL
  rw [HT.sIx_nat]
  show (xs.drop (min n xs.length)).take (xs.length - min n xs.length) = _
  by_cases h : n ≤ xs.length
  · rw [Nat.min_eq_left h, List.take_of_length_le (by rw [List.length_drop]; omega)]
  · rw [Nat.min_eq_right (by omega), List.drop_of_length_le (Nat.le_refl _), List.drop_of_length_le (by omega)]
    simp
end DL

namespace LX
open PySem L2 DL
noncomputable section
def top (i : Nat) : Stmt := PySem.Challenge.pw_findstold_k15_texts_refused.main.body.getD i (.Pass ⟨0, 0, 0, 0⟩)
structure Ad where
  (kBook cPARTS cPARTS_0 cPARTS_1 cPARTS_2 cPARTS_3 cPARTS_4 cPARTS_5 cPRICES cWORDS kFindError kInvalidLine : Addr)
def d_PARTS (a : Ad) : D := .vv (.ref a.cPARTS)
def kv_PARTS (a : Ad) : List (Key × V) := [(.inr "counts", .ref a.cPARTS_0), (.inr "evening", .ref a.cPARTS_1), (.inr "lost", .ref a.cPARTS_2), (.inr "remembers", .ref a.cPARTS_3), (.inr "search", .ref a.cPARTS_4), (.inr "tells", .ref a.cPARTS_5)]
def xs_PARTS : List D := [.tup [.str "comes", .str "fits"], .tup [.str "looks", .str "sends"], .tup [.str "again", .str "noted"], .tup [.str "number", .str "price", .str "thing"], .tup [.str "forgets", .str "keeps"], .tup [.str "evening", .str "now"]]
def d_PRICES (a : Ad) : D := .tup [.str "2", .str "3"]
def d_WORDS (a : Ad) : D := .tup [.str "anew", .str "lose", .str "number", .str "pause", .str "price", .str "search"]
abbrev s_xInvalidLine : Stmt := inClass (top 6) 0
theorem xw_InvalidLine (cc cda : Addr) : XiW ⟨"__init__", "InvalidLine.__init__", defArgs s_xInvalidLine, defBody s_xInvalidLine, defScope s_xInvalidLine, [(("__class__" : Str), cc)], cda⟩ ["self", "line", "__class__"] ["self", "line"] ((defBody s_xInvalidLine).drop 1) := ⟨NdefX.nscope_by (sc := defScope s_xInvalidLine) (by decide +kernel), ⟨_, _, _, _, _, _, _, _, _, rfl, fun _ _ => rfl⟩, ⟨_, rfl, rfl, rfl⟩, rfl, rfl, fun _ _ _ _ _ _ us hl => match us, hl with | [_, _], _ => rfl⟩
abbrev s_is_integer : Stmt := top 10
abbrev N_is_integer : List Str := ["thing", "low", "high"]
abbrev P_is_integer : List Str := ["thing", "low", "high"]
theorem sc_is_integer : FnScope N_is_integer P_is_integer (defScope s_is_integer) := ⟨rfl, rfl, rfl, by decide +kernel, rfl, by decide +kernel, by decide +kernel⟩
def r_is_integer (a : Ad) : RS := (rRet (rAndV (rCB (isiD (.ty "int") (isT "int")) (rCons (rVar 0) (rCons (rC (.vv (.ty "int"))) rNil))) (rAndV (rNotV (rCB (isiD (.ty "bool") (isT "bool")) (rCons (rVar 0) (rCons (rC (.vv (.ty "bool"))) rNil)))) (rChain leD leD (rVar 1) (rVar 0) (rVar 2)))))
def ct_is_integer (a : Ad) : Ct := ctT 0 (r_is_integer a)
abbrev s_is_word : Stmt := top 11
abbrev N_is_word : List Str := ["thing", "words"]
abbrev P_is_word : List Str := ["thing", "words"]
theorem sc_is_word : FnScope N_is_word P_is_word (defScope s_is_word) := ⟨rfl, rfl, rfl, by decide +kernel, rfl, by decide +kernel, by decide +kernel⟩
def r_is_word (a : Ad) : RS := (rRet (rAndV (rCB (isiD (.ty "str") (isT "str")) (rCons (rVar 0) (rCons (rC (.vv (.ty "str"))) rNil))) (rBin (inD false) (rVar 0) (rVar 1))))
def ct_is_word (a : Ad) : Ct := ctT 0 (r_is_word a)
abbrev s_check_rule : Stmt := top 12
abbrev N_check_rule : List Str := ["rule", "part", "words"]
abbrev P_check_rule : List Str := ["rule"]
theorem sc_check_rule : FnScope N_check_rule P_check_rule (defScope s_check_rule) := ⟨rfl, rfl, rfl, by decide +kernel, rfl, by decide +kernel, by decide +kernel⟩
def r_check_rule (a : Ad) : RS := (rSeq (rIfS (rOrT (rNotT (rT (rCB (isiD (.ty "dict") (isT "dict")) (rCons (rVar 0) (rCons (rC (.vv (.ty "dict"))) rNil))))) (rOrT (rT (rBin neD (rCB lenD (rCons (rVar 0) rNil)) (rCB (onP a.cPARTS fun μ => .ok (.int ((kv_PARTS a).length : Nat)) μ) (rCons (rC (d_PARTS a)) rNil)))) (rNotT (rT (rCB (allD false) (rCons (rLc (rItems (rVar 0)) (.nm 1) (([("part", 1)] : List (Str × Nat)).map (·.2)) rYes (rCall 2 (ct_is_word a) (rCons (rVar 1) (rCons (rCB (onP a.cPARTS fun μ => .ok (.lst (((kv_PARTS a).map (·.1)).map Key.d)) μ) (rCons (rC (d_PARTS a)) rNil)) rNil)))) rNil)))))) (fun _ _ => .bad) (fun δ μ => .nx δ μ))
    (rFor (rP a.cPARTS (pairsP ((kv_PARTS a).map (·.1)) xs_PARTS) (rC (d_PARTS a))) (.tp [1, 2]) (rIfS (rNotT (rT (rCall 2 (ct_is_word a) (rCons (rBin getD (rVar 0) (rVar 1)) (rCons (rVar 2) rNil))))) (fun _ _ => .bad) (fun δ μ => .nx δ μ))))
def ct_check_rule (a : Ad) : Ct := ctT 2 (r_check_rule a)
abbrev s_Book_init : Stmt := inClass (top 13) 0
abbrev N_Book_init : List Str := ["self", "prices", "rule", "words", "part", "word"]
abbrev P_Book_init : List Str := ["self", "prices", "rule", "words"]
theorem sc_Book_init : FnScope N_Book_init P_Book_init (defScope s_Book_init) := ⟨rfl, rfl, rfl, by decide +kernel, rfl, by decide +kernel, by decide +kernel⟩
def r_Book_init (a : Ad) : RS := (rSeq (rIfS (rNotT (rT (rCall 3 (ct_is_integer a) (rCons (rVar 1) (rCons (rC (.int 2)) (rCons (rC (.int 3)) rNil)))))) (fun _ _ => .bad) (fun δ μ => .nx δ μ))
    (rSeq (rDrop (rCall 1 (ct_check_rule a) (rCons (rVar 2) rNil)))
    (rSeq (rIfS (rOrT (rNotT (rT (rCB (isiD (.ty "tuple") (isT "tuple")) (rCons (rVar 3) (rCons (rC (.vv (.ty "tuple"))) rNil))))) (rNotT (rT (rCB (allD false) (rCons (rLc (rItems (rVar 3)) (.nm 5) (([("word", 5)] : List (Str × Nat)).map (·.2)) rYes (rCall 2 (ct_is_word a) (rCons (rVar 5) (rCons (rC (d_WORDS a)) rNil)))) rNil))))) (fun _ _ => .bad) (fun δ μ => .nx δ μ))
    (rSeq (rIfS (rT (rBin neD (rLc (rItems (rC (d_WORDS a))) (.nm 5) (([("word", 5)] : List (Str × Nat)).map (·.2)) (rT (rBin (inD false) (rVar 5) (rVar 3))) (rVar 5)) (rCB (listD false) (rCons (rVar 3) rNil)))) (fun _ _ => .bad) (fun δ μ => .nx δ μ))
    (rSeq (rSetF a.kBook "highest" (rVar 0) (rVar 1))
    (rSeq (rSetF a.kBook "terms" (rVar 0) (rDc (rP a.cPARTS (((kv_PARTS a).map (·.1)).map Key.d) (rC (d_PARTS a))) (.nm 4) (([("part", 4)] : List (Str × Nat)).map (·.2)) rYes (rVar 4) (rBin getD (rVar 2) (rVar 4))))
    (rSetF a.kBook "kinds" (rVar 0) (rVar 3))))))))
def cm_Book (a : Ad) : Ct := ctT 2 (r_Book_init a)
abbrev s_line_at : Stmt := top 16
abbrev N_line_at : List Str := ["lines", "index"]
abbrev P_line_at : List Str := ["lines", "index"]
theorem sc_line_at : FnScope N_line_at P_line_at (defScope s_line_at) := ⟨rfl, rfl, rfl, by decide +kernel, rfl, by decide +kernel, by decide +kernel⟩
def r_line_at (a : Ad) : RS := (rSeq (rIfS (rT (rBin geD (rVar 1) (rCB lenD (rCons (rVar 0) rNil)))) (rRaise a.kInvalidLine ["line"] (rCons (rBin addD (rCB lenD (rCons (rVar 0) rNil)) (rC (.int 1))) rNil)) (fun δ μ => .nx δ μ))
    (rRet (rMt isStr splitD (rBin getD (rVar 0) (rVar 1)) (rCons (rC (.str " ")) rNil))))
def ct_line_at (a : Ad) : Ct := ctT 0 (r_line_at a)
abbrev s_word_at : Stmt := top 17
abbrev N_word_at : List Str := ["lines", "index", "part", "allowed", "words"]
abbrev P_word_at : List Str := ["lines", "index", "part", "allowed"]
theorem sc_word_at : FnScope N_word_at P_word_at (defScope s_word_at) := ⟨rfl, rfl, rfl, by decide +kernel, rfl, by decide +kernel, by decide +kernel⟩
def r_word_at (a : Ad) : RS := (rSeq (rSet 4 (rCall 2 (ct_line_at a) (rCons (rVar 0) (rCons (rVar 1) rNil))))
    (rSeq (rIfS (rOrT (rT (rBin neD (rCB lenD (rCons (rVar 4) rNil)) (rC (.int 2)))) (rOrT (rT (rBin neD (rBin getD (rVar 4) (rC (.int 0))) (rVar 2))) (rT (rBin (inD true) (rBin getD (rVar 4) (rC (.int 1))) (rVar 3))))) (rRaise a.kInvalidLine ["line"] (rCons (rBin addD (rVar 1) (rC (.int 1))) rNil)) (fun δ μ => .nx δ μ))
    (rRet (rBin getD (rVar 4) (rC (.int 1))))))
def ct_word_at (a : Ad) : Ct := ctT 1 (r_word_at a)
abbrev s_words_at : Stmt := top 18
abbrev N_words_at : List Str := ["lines", "index", "words", "word"]
abbrev P_words_at : List Str := ["lines", "index"]
theorem sc_words_at : FnScope N_words_at P_words_at (defScope s_words_at) := ⟨rfl, rfl, rfl, by decide +kernel, rfl, by decide +kernel, by decide +kernel⟩
def r_words_at (a : Ad) : RS := (rSeq (rSet 2 (rCall 2 (ct_line_at a) (rCons (rVar 0) (rCons (rVar 1) rNil))))
    (rSeq (rIfS (rOrT (rT (rBin neD (rBin getD (rVar 2) (rC (.int 0))) (rC (.str "words")))) (rT (rBin neD (rLc (rItems (rC (d_WORDS a))) (.nm 3) (([("word", 3)] : List (Str × Nat)).map (·.2)) (rT (rBin (inD false) (rVar 3) (rSlice (rVar 2) (rSome (rC (.int 1))) rNone))) (rVar 3)) (rSlice (rVar 2) (rSome (rC (.int 1))) rNone)))) (rRaise a.kInvalidLine ["line"] (rCons (rBin addD (rVar 1) (rC (.int 1))) rNil)) (fun δ μ => .nx δ μ))
    (rRet (rCB tupD (rCons (rSlice (rVar 2) (rSome (rC (.int 1))) rNone) rNil)))))
def ct_words_at (a : Ad) : Ct := ctT 2 (r_words_at a)
abbrev s_read : Stmt := top 19
abbrev N_read : List Str := ["text", "lines", "rule", "index", "prices", "part", "allowed", "words"]
abbrev P_read : List Str := ["text"]
theorem sc_read : FnScope N_read P_read (defScope s_read) := ⟨rfl, rfl, rfl, by decide +kernel, rfl, by decide +kernel, by decide +kernel⟩
def r_read (a : Ad) : RS := (rSeq (rPar3 1 2 3 (rCons (rMt isStr splitD (rVar 0) (rCons (rC (.str "\n")) rNil)) (rCons rDnew (rCons (rC (.int 1)) rNil))))
    (rSeq (rSet 4 (rCB intD (rCons (rCall 4 (ct_word_at a) (rCons (rVar 1) (rCons (rC (.int 0)) (rCons (rC (.str "prices")) (rCons (rC (d_PRICES a)) rNil))))) rNil)))
    (rSeq (rFor (rP a.cPARTS (pairsP ((kv_PARTS a).map (·.1)) xs_PARTS) (rC (d_PARTS a))) (.tp [5, 6]) (rSeq (rAsgD (gSt (rVar 2) (rVar 5)) (rCall 4 (ct_word_at a) (rCons (rVar 1) (rCons (rVar 3) (rCons (rVar 5) (rCons (rVar 6) rNil))))))
    (rAug 3 (fun i j => i + j) (rC (.int 1)))))
    (rSeq (rSet 7 (rCall 2 (ct_words_at a) (rCons (rVar 1) (rCons (rVar 3) rNil))))
    (rSeq (rIfS (rT (rBin gtD (rCB lenD (rCons (rVar 1) rNil)) (rBin addD (rVar 3) (rC (.int 1))))) (rRaise a.kInvalidLine ["line"] (rCons (rBin addD (rVar 3) (rC (.int 2))) rNil)) (fun δ μ => .nx δ μ))
    (rRet (rMake a.kBook 3 (cm_Book a) (rCons (rVar 4) (rCons (rFrz (rVar 2)) (rCons (rVar 7) rNil))))))))))
def ct_read (a : Ad) : Ct := ctT 7 (r_read a)
abbrev s_law_mix : Stmt := top 21
abbrev N_law_mix : List Str := ["_law_script", "_law_seed", "_law_state", "_law_cell"]
abbrev P_law_mix : List Str := ["_law_script", "_law_seed"]
theorem sc_law_mix : FnScope N_law_mix P_law_mix (defScope s_law_mix) := ⟨rfl, rfl, rfl, by decide +kernel, rfl, by decide +kernel, by decide +kernel⟩
def r_law_mix (a : Ad) : RS := (rSeq (rSet 2 (rVar 1))
    (rSeq (rFor (rItems (rVar 0)) (.nm 3) (rSet 2 (rBin modD (rCB intD (rCons (rBin addD (rBin addD (rBin mulD (rVar 2) (rC (.int 48271))) (rBin modD (rCB intD (rCons (rVar 3) rNil)) (rC (.int 2147483629)))) (rC (.int 1))) rNil)) (rC (.int 2147483647)))))
    (rRet (rLstM (rCons (rVar 2) (rCons (rCB (listD true) (rCons (rVar 0) rNil)) (rCons (rC (.int 0)) rNil)))))))
def ct__law_mix (a : Ad) : Ct := ctOf 2 (r_law_mix a)
abbrev s_law_next : Stmt := top 22
abbrev N_law_next : List Str := ["_law_h", "_law_cap", "_law_cell"]
abbrev P_law_next : List Str := ["_law_h", "_law_cap"]
theorem sc_law_next : FnScope N_law_next P_law_next (defScope s_law_next) := ⟨rfl, rfl, rfl, by decide +kernel, rfl, by decide +kernel, by decide +kernel⟩
def r_law_next (a : Ad) : RS := (rSeq (rSet 2 (rBin getD (rBin addD (rBin getD (rVar 0) (rC (.int 1))) (rLst (rCons (rC (.int 0)) rNil))) (rBin modD (rCB intD (rCons (rBin getD (rVar 0) (rC (.int 2))) rNil)) (rCB max2D (rCons (rC (.int 1)) (rCons (rCB lenD (rCons (rBin getD (rVar 0) (rC (.int 1))) rNil)) rNil))))))
    (rSeq (rIfS (rT (rBin geD (rVar 2) (rBin powD (rC (.int 10)) (rC (.int 18))))) (rSeq (rAsgD (gSt (rBin getD (rVar 0) (rC (.int 1))) (rBin modD (rCB intD (rCons (rBin getD (rVar 0) (rC (.int 2))) rNil)) (rCB lenD (rCons (rBin getD (rVar 0) (rC (.int 1))) rNil)))) (rBin divD (rVar 2) (rVar 1)))
    (rRet (rBin modD (rCB intD (rCons (rVar 2) rNil)) (rVar 1)))) (fun δ μ => .nx δ μ))
    (rSeq (rAsgD (gSt (rVar 0) (rC (.int 0))) (rBin modD (rCB intD (rCons (rBin addD (rBin addD (rBin mulD (rBin getD (rVar 0) (rC (.int 0))) (rC (.int 48271))) (rBin mulD (rVar 2) (rC (.int 69621)))) (rC (.int 11))) rNil)) (rC (.int 2147483647))))
    (rSeq (rAsgD (gSt (rVar 0) (rC (.int 2))) (rBin addD (rBin getD (rVar 0) (rC (.int 2))) (rC (.int 1))))
    (rRet (rBin modD (rCB intD (rCons (rBin divD (rBin getD (rVar 0) (rC (.int 0))) (rC (.int 7))) rNil)) (rVar 1)))))))
def ct__law_next (a : Ad) : Ct := ctT 1 (r_law_next a)
abbrev s_law_alike : Stmt := top 23
abbrev N_law_alike : List Str := ["_law_found", "_law_due", "_law_k"]
abbrev P_law_alike : List Str := ["_law_found", "_law_due"]
theorem sc_law_alike : FnScope N_law_alike P_law_alike (defScope s_law_alike) := ⟨rfl, rfl, rfl, by decide +kernel, rfl, by decide +kernel, by decide +kernel⟩
def r_law_alike (a : Ad) (rec : Ct) : RS := (rSeq (rIfS (rT (rCB (isiD (.ty "dict") (isT "dict")) (rCons (rVar 1) (rCons (rC (.vv (.ty "dict"))) rNil)))) (rRet (rAndV (rCB (isiD (.ty "dict") (isT "dict")) (rCons (rVar 0) (rCons (rC (.vv (.ty "dict"))) rNil))) (rAndV (rCall 2 rec (rCons (rCB (listD false) (rCons (rVar 0) rNil)) (rCons (rCB (listD false) (rCons (rVar 1) rNil)) rNil))) (rBin eqD (rVar 0) (rVar 1))))) (fun δ μ => .nx δ μ))
    (rSeq (rIfS (rT (rIsTs (isT2 "tuple" "list") (rVar 1))) (rSeq (rIfS (rOrT (rNotT (rT (rIsTs (isT2 "tuple" "list") (rVar 0)))) (rT (rBin neD (rCB (isiD (.ty "list") (isT "list")) (rCons (rVar 0) (rCons (rC (.vv (.ty "list"))) rNil))) (rCB (isiD (.ty "list") (isT "list")) (rCons (rVar 1) (rCons (rC (.vv (.ty "list"))) rNil)))))) (rRet (rC (.bl false))) (fun δ μ => .nx δ μ))
    (rSeq (rIfS (rT (rBin neD (rCB lenD (rCons (rVar 0) rNil)) (rCB lenD (rCons (rVar 1) rNil)))) (rRet (rC (.bl false))) (fun δ μ => .nx δ μ))
    (rRet (rBin eqD (rLc (rRange1 (rCons (rCB lenD (rCons (rVar 1) rNil)) rNil)) (.nm 2) (([("_law_k", 2)] : List (Str × Nat)).map (·.2)) (rNotT (rT (rCall 2 rec (rCons (rBin getD (rVar 0) (rVar 2)) (rCons (rBin getD (rVar 1) (rVar 2)) rNil))))) (rVar 2)) (rLst rNil))))) (fun δ μ => .nx δ μ))
    (rSeq (rIfS (rOrT (rT (rBin isN (rVar 1) (rC .non))) (rT (rCB (isiD (.ty "str") (isT "str")) (rCons (rVar 1) (rCons (rC (.vv (.ty "str"))) rNil))))) (rRet (rAndV (rBin eqD (rVar 0) (rVar 1)) (rBin eqD (rCB (isiD (.ty "str") (isT "str")) (rCons (rVar 0) (rCons (rC (.vv (.ty "str"))) rNil))) (rCB (isiD (.ty "str") (isT "str")) (rCons (rVar 1) (rCons (rC (.vv (.ty "str"))) rNil)))))) (fun δ μ => .nx δ μ))
    (rRet (rAndV (rCB (isiD (.ty "int") (isT "int")) (rCons (rVar 0) (rCons (rC (.vv (.ty "int"))) rNil))) (rAndV (rBin eqD (rCB (isiD (.ty "bool") (isT "bool")) (rCons (rVar 0) (rCons (rC (.vv (.ty "bool"))) rNil))) (rCB (isiD (.ty "bool") (isT "bool")) (rCons (rVar 1) (rCons (rC (.vv (.ty "bool"))) rNil)))) (rBin eqD (rVar 0) (rVar 1))))))))
def ct__law_alike_0 (a : Ad) : Ct := ctT 1 (r_law_alike a (fun _ _ => .bad))
abbrev ct__law_alike (a : Ad) : Ct := ct__law_alike_0 a
abbrev s_law_pick : Stmt := top 24
abbrev N_law_pick : List Str := ["_law_h", "_law_things"]
abbrev P_law_pick : List Str := ["_law_h", "_law_things"]
theorem sc_law_pick : FnScope N_law_pick P_law_pick (defScope s_law_pick) := ⟨rfl, rfl, rfl, by decide +kernel, rfl, by decide +kernel, by decide +kernel⟩
def r_law_pick (a : Ad) : RS := (rRet (rBin getD (rVar 1) (rCall 2 (ct__law_next a) (rCons (rVar 0) (rCons (rCB lenD (rCons (rVar 1) rNil)) rNil)))))
def ct__law_pick (a : Ad) : Ct := ctT 0 (r_law_pick a)
abbrev s_law_parts : Stmt := top 25
abbrev N_law_parts : List Str := ["_law_found"]
abbrev P_law_parts : List Str := []
theorem sc_law_parts : FnScope N_law_parts P_law_parts (defScope s_law_parts) := ⟨rfl, rfl, rfl, by decide +kernel, rfl, by decide +kernel, by decide +kernel⟩
def r_law_parts (a : Ad) : RS := (rSeq (rSet 0 (rLstM (rCons (rLst (rCons (rC (.str "counts")) (rCons (rC (.str "comes")) (rCons (rC (.str "fits")) rNil)))) (rCons (rLst (rCons (rC (.str "evening")) (rCons (rC (.str "looks")) (rCons (rC (.str "sends")) rNil)))) (rCons (rLst (rCons (rC (.str "lost")) (rCons (rC (.str "again")) (rCons (rC (.str "noted")) rNil)))) rNil)))))
    (rSeq (rDrop (rMt isLst apD (rVar 0) (rCons (rLst (rCons (rC (.str "remembers")) (rCons (rC (.str "number")) (rCons (rC (.str "price")) (rCons (rC (.str "thing")) rNil))))) rNil)))
    (rRet (rBin addD (rVar 0) (rLst (rCons (rLst (rCons (rC (.str "search")) (rCons (rC (.str "forgets")) (rCons (rC (.str "keeps")) rNil)))) (rCons (rLst (rCons (rC (.str "tells")) (rCons (rC (.str "evening")) (rCons (rC (.str "now")) rNil)))) rNil)))))))
def ct__law_parts (a : Ad) : Ct := ctT 1 (r_law_parts a)
abbrev s_law_rule : Stmt := top 26
abbrev N_law_rule : List Str := ["_law_h", "_law_rule_here", "_law_row"]
abbrev P_law_rule : List Str := ["_law_h"]
theorem sc_law_rule : FnScope N_law_rule P_law_rule (defScope s_law_rule) := ⟨rfl, rfl, rfl, by decide +kernel, rfl, by decide +kernel, by decide +kernel⟩
def r_law_rule (a : Ad) : RS := (rSeq (rSet 1 rDnew)
    (rSeq (rFor (rItems (fun _ μ => noX (ct__law_parts a [] μ))) (.nm 2) (rAsgD (gSt (rVar 1) (rBin getD (rVar 2) (rC (.int 0)))) (rCall 2 (ct__law_pick a) (rCons (rVar 0) (rCons (rSlice (rVar 2) (rSome (rC (.int 1))) rNone) rNil)))))
    (rSeq (rIfS (rT (rBin eqD (rCall 2 (ct__law_next a) (rCons (rVar 0) (rCons (rC (.int 2)) rNil))) (rC (.int 0)))) (rAsgD (gSt (rVar 1) (rC (.str "tells"))) (rC (.str "evening"))) (fun δ μ => .nx δ μ))
    (rRet (rFrz (rVar 1))))))
def ct__law_rule (a : Ad) : Ct := ctT 2 (r_law_rule a)
abbrev s_law_words : Stmt := top 27
abbrev N_law_words : List Str := ["_law_h", "_law_many", "_law_every", "_law_found", "_law_k", "_law_word"]
abbrev P_law_words : List Str := ["_law_h", "_law_many"]
theorem sc_law_words : FnScope N_law_words P_law_words (defScope s_law_words) := ⟨rfl, rfl, rfl, by decide +kernel, rfl, by decide +kernel, by decide +kernel⟩
def r_law_words (a : Ad) : RS := (rSeq (rSet 2 (rLst (rCons (rC (.str "anew")) (rCons (rC (.str "lose")) (rCons (rC (.str "number")) (rCons (rC (.str "pause")) (rCons (rC (.str "price")) (rCons (rC (.str "search")) rNil))))))))
    (rSeq (rSet 3 (rLc (rRange1 (rCons (rCall 2 (ct__law_next a) (rCons (rVar 0) (rCons (rBin addD (rVar 1) (rC (.int 1))) rNil))) rNil)) (.nm 4) (([("_law_k", 4)] : List (Str × Nat)).map (·.2)) rYes (rCall 2 (ct__law_pick a) (rCons (rVar 0) (rCons (rVar 2) rNil)))))
    (rRet (rCB tupD (rCons (rLc (rItems (rVar 2)) (.nm 5) (([("_law_word", 5)] : List (Str × Nat)).map (·.2)) (rT (rBin (inD false) (rVar 5) (rVar 3))) (rVar 5)) rNil)))))
def ct__law_words (a : Ad) : Ct := ctT 4 (r_law_words a)
abbrev s_law_draw : Stmt := top 28
abbrev N_law_draw : List Str := ["_law_h"]
abbrev P_law_draw : List Str := ["_law_h"]
theorem sc_law_draw : FnScope N_law_draw P_law_draw (defScope s_law_draw) := ⟨rfl, rfl, rfl, by decide +kernel, rfl, by decide +kernel, by decide +kernel⟩
def r_law_draw (a : Ad) : RS := (rRet (rLst (rCons (rC (.int 2)) (rCons (rCall 1 (ct__law_rule a) (rCons (rVar 0) rNil)) (rCons (rCall 2 (ct__law_words a) (rCons (rVar 0) (rCons (rC (.int 3)) rNil))) rNil)))))
def ct__law_draw (a : Ad) : Ct := ctT 0 (r_law_draw a)
abbrev s_law_is_line : Stmt := top 29
abbrev N_law_is_line : List Str := ["_law_words_here", "_law_k", "_law_every", "_law_part", "_law_word"]
abbrev P_law_is_line : List Str := ["_law_words_here", "_law_k"]
theorem sc_law_is_line : FnScope N_law_is_line P_law_is_line (defScope s_law_is_line) := ⟨rfl, rfl, rfl, by decide +kernel, rfl, by decide +kernel, by decide +kernel⟩
def r_law_is_line (a : Ad) : RS := (rSeq (rIfS (rT (rBin eqD (rVar 1) (rC (.int 0)))) (rRet (rBin (inD false) (rVar 0) (rLst (rCons (rLst (rCons (rC (.str "prices")) (rCons (rC (.str "2")) rNil))) (rCons (rLst (rCons (rC (.str "prices")) (rCons (rC (.str "3")) rNil))) rNil))))) (fun δ μ => .nx δ μ))
    (rSeq (rIfS (rT (rBin ltD (rVar 1) (rC (.int 7)))) (rSeq (rSet 3 (rBin getD (fun _ μ => noX (ct__law_parts a [] μ)) (rBin subD (rVar 1) (rC (.int 1)))))
    (rRet (rAndV (rBin eqD (rCB lenD (rCons (rVar 0) rNil)) (rC (.int 2))) (rAndV (rBin eqD (rBin getD (rVar 0) (rC (.int 0))) (rBin getD (rVar 3) (rC (.int 0)))) (rBin (inD false) (rBin getD (rVar 0) (rC (.int 1))) (rSlice (rVar 3) (rSome (rC (.int 1))) rNone)))))) (fun δ μ => .nx δ μ))
    (rSeq (rIfS (rOrT (rT (rBin gtD (rVar 1) (rC (.int 7)))) (rT (rBin neD (rBin getD (rVar 0) (rC (.int 0))) (rC (.str "words"))))) (rRet (rC (.bl false))) (fun δ μ => .nx δ μ))
    (rSeq (rSet 2 (rLst (rCons (rC (.str "anew")) (rCons (rC (.str "lose")) (rCons (rC (.str "number")) (rCons (rC (.str "pause")) (rCons (rC (.str "price")) (rCons (rC (.str "search")) rNil))))))))
    (rRet (rBin eqD (rLc (rItems (rVar 2)) (.nm 4) (([("_law_word", 4)] : List (Str × Nat)).map (·.2)) (rT (rBin (inD false) (rVar 4) (rSlice (rVar 0) (rSome (rC (.int 1))) rNone))) (rVar 4)) (rSlice (rVar 0) (rSome (rC (.int 1))) rNone)))))))
def ct__law_is_line (a : Ad) : Ct := ctT 3 (r_law_is_line a)
abbrev s_law_first_wrong : Stmt := top 30
abbrev N_law_first_wrong : List Str := ["_law_lines", "_law_k"]
abbrev P_law_first_wrong : List Str := ["_law_lines"]
theorem sc_law_first_wrong : FnScope N_law_first_wrong P_law_first_wrong (defScope s_law_first_wrong) := ⟨rfl, rfl, rfl, by decide +kernel, rfl, by decide +kernel, by decide +kernel⟩
def r_law_first_wrong (a : Ad) : RS := (rSeq (rFor (rRange1 (rCons (rCB lenD (rCons (rVar 0) rNil)) rNil)) (.nm 1) (rIfS (rNotT (rT (rCall 2 (ct__law_is_line a) (rCons (rMt isStr splitD (rBin getD (rVar 0) (rVar 1)) (rCons (rC (.str " ")) rNil)) (rCons (rVar 1) rNil))))) (rRet (rBin addD (rVar 1) (rC (.int 1)))) (fun δ μ => .nx δ μ)))
    (rRet (rIf (rT (rBin ltD (rCB lenD (rCons (rVar 0) rNil)) (rC (.int 8)))) (rBin addD (rCB lenD (rCons (rVar 0) rNil)) (rC (.int 1))) (rC .non))))
def ct__law_first_wrong (a : Ad) : Ct := ctT 1 (r_law_first_wrong a)
abbrev s_law_answer : Stmt := top 31
abbrev N_law_answer : List Str := ["_law_text", "_law_found", "error"]
abbrev P_law_answer : List Str := ["_law_text"]
theorem sc_law_answer : FnScope N_law_answer P_law_answer (defScope s_law_answer) := ⟨rfl, rfl, rfl, by decide +kernel, rfl, by decide +kernel, by decide +kernel⟩
def r_law_answer (a : Ad) : RS := (rSeq (rSet 1 (rC .non))
    (rSeq (rTry (rDrop (rCall 1 (ct_read a) (rCons (rVar 0) rNil))) [⟨mOf [(a.kInvalidLine, true)], some 2, (sSet 1 (gIs (okOf a.kInvalidLine) (gFld a.kInvalidLine "line")))⟩])
    (rRet (rVar 1))))
def ct__law_answer (a : Ad) : Ct := ctT 2 (r_law_answer a)
abbrev s_law : Stmt := top 32
abbrev N_law : List Str := ["_law_script", "_law_h", "_law_odd", "_law_turn", "_law_row", "_law_lines", "_law_change", "_law_at", "_law_kind", "_law_part"]
abbrev P_law : List Str := ["_law_script"]
theorem sc_law : FnScope N_law P_law (defScope s_law) := ⟨rfl, rfl, rfl, by decide +kernel, rfl, by decide +kernel, by decide +kernel⟩
def r_law (a : Ad) : RS := (rSeq (rSet 1 (rCall 2 (ct__law_mix a) (rCons (rVar 0) (rCons (rC (.int 15)) rNil))))
    (rSeq (rSet 2 (rLst (rCons (rC (.str "")) (rCons (rC (.str "prices 4")) (rCons (rC (.str "prices")) (rCons (rC (.str "prices 2 3")) (rCons (rC (.str "counts fits ")) (rCons (rC (.str "lost")) rNil))))))))
    (rSeq (rSet 2 (rBin addD (rVar 2) (rLst (rCons (rC (.str "tells two")) (rCons (rC (.str "search keeps keeps")) (rCons (rC (.str " lost again")) rNil))))))
    (rSeq (rSet 2 (rBin addD (rVar 2) (rLst (rCons (rC (.str "words pause lose")) (rCons (rC (.str "words go")) (rCons (rC (.str "words ")) (rCons (rC (.str "words")) (rCons (rC (.str "evening  looks")) rNil))))))))
    (rSeq (rSet 2 (rBin addD (rVar 2) (rLst (rCons (rC (.str "prices 3")) (rCons (rC (.str "tells now")) (rCons (rC (.str "word lose")) rNil))))))
    (rSeq (rFor (rRange1 (rCons (rC (.int 8)) rNil)) (.nm 3) (rSeq (rSet 4 (rCall 1 (ct__law_draw a) (rCons (rVar 1) rNil)))
    (rSeq (rSet 5 (rBin addD (rLst (rCons (rC (.str "prices 2")) rNil)) (rLc (rItems (fun _ μ => noX (ct__law_parts a [] μ))) (.nm 9) (([("_law_part", 9)] : List (Str × Nat)).map (·.2)) rYes (rBin addD (rBin addD (rBin getD (rVar 9) (rC (.int 0))) (rC (.str " "))) (rBin getD (rBin getD (rVar 4) (rC (.int 1))) (rBin getD (rVar 9) (rC (.int 0))))))))
    (rSeq (rSet 5 (rBin addD (rVar 5) (rLst (rCons (rMt isStr joinD (rC (.str " ")) (rCons (rBin addD (rLst (rCons (rC (.str "words")) rNil)) (rCB (listD false) (rCons (rBin getD (rVar 4) (rC (.int 2))) rNil))) rNil)) rNil))))
    (rSeq (rFor (rRange1 (rCons (rCall 2 (ct__law_next a) (rCons (rVar 1) (rCons (rC (.int 3)) rNil))) rNil)) (.nm 6) (rSeq (rPar 7 8 (rCons (rCall 2 (ct__law_next a) (rCons (rVar 1) (rCons (rBin addD (rCB lenD (rCons (rVar 5) rNil)) (rC (.int 1))) rNil))) (rCons (rCall 2 (ct__law_next a) (rCons (rVar 1) (rCons (rC (.int 4)) rNil))) rNil)))
    (rIfS (rT (rBin eqD (rVar 8) (rC (.int 0)))) (rSet 5 (rBin addD (rBin addD (rSlice (rVar 5) rNone (rSome (rVar 7))) (rLst (rCons (rCall 2 (ct__law_pick a) (rCons (rVar 1) (rCons (rVar 2) rNil))) rNil))) (rSlice (rVar 5) (rSome (rVar 7)) rNone))) (rIfS (rT (rBin eqD (rVar 8) (rC (.int 1)))) (rSet 5 (rBin addD (rBin addD (rSlice (rVar 5) rNone (rSome (rVar 7))) (rLst (rCons (rCall 2 (ct__law_pick a) (rCons (rVar 1) (rCons (rVar 2) rNil))) rNil))) (rSlice (rVar 5) (rSome (rBin addD (rVar 7) (rC (.int 1)))) rNone))) (rSet 5 (rIf (rAndT (rT (rBin eqD (rVar 8) (rC (.int 2)))) (rT (rBin gtD (rCB lenD (rCons (rVar 5) rNil)) (rC (.int 1))))) (rBin addD (rSlice (rVar 5) rNone (rSome (rVar 7))) (rSlice (rVar 5) (rSome (rBin addD (rVar 7) (rC (.int 1)))) rNone)) (rBin addD (rSlice (rVar 5) (rSome (rVar 7)) rNone) (rSlice (rVar 5) rNone (rSome (rVar 7))))))))))
    (rIfS (rNotT (rT (rCall 2 (ct__law_alike a) (rCons (rCall 1 (ct__law_answer a) (rCons (rMt isStr joinD (rC (.str "\n")) (rCons (rVar 5) rNil)) rNil)) (rCons (rCall 1 (ct__law_first_wrong a) (rCons (rVar 5) rNil)) rNil))))) (rRet (rC (.bl false))) (fun δ μ => .nx δ μ)))))))
    (rRet (rBin eqD (rCall 1 (ct__law_answer a) (rCons (rC (.str "")) rNil)) (rC (.int 1))))))))))
def ct_law (a : Ad) : Ct := ctOf 9 (r_law a)
structure Txt (P : Program) (K : PySem.W.Frag) (mg : Str → Option Value) (w : World) (a : Ad) : Prop where
  g_PARTS : mg "PARTS" = some (.ref a.cPARTS)
  D_PARTS : KDat K w a.cPARTS (kv_PARTS a)
  l_PARTS : ∀ α F, IsL K α F ((kv_PARTS a).map (·.2)) xs_PARTS
  g_PRICES : mg "PRICES" = some (.ref a.cPRICES)
  i_PRICES : ∀ α F, Is K α F (.ref a.cPRICES) (d_PRICES a)
  g_WORDS : mg "WORDS" = some (.ref a.cWORDS)
  i_WORDS : ∀ α F, Is K α F (.ref a.cWORDS) (d_WORDS a)
  n_all : mg "all" = none
  n_bool : mg "bool" = none
  n_dict : mg "dict" = none
  n_int : mg "int" = none
  n_isinstance : mg "isinstance" = none
  n_len : mg "len" = none
  n_list : mg "list" = none
  n_max : mg "max" = none
  n_range : mg "range" = none
  n_str : mg "str" = none
  n_tuple : mg "tuple" = none
  at_Book_highest : At K a.kBook "highest"
  at_Book_kinds : At K a.kBook "kinds"
  at_Book_terms : At K a.kBook "terms"
  df_is_integer : Df K mg "is_integer" s_is_integer P_is_integer
  df_is_word : Df K mg "is_word" s_is_word P_is_word
  df_check_rule : Df K mg "check_rule" s_check_rule P_check_rule
  dc_Book : Dc K mg "Book" "Book.__init__" s_Book_init a.kBook P_Book_init
  df_line_at : Df K mg "line_at" s_line_at P_line_at
  df_word_at : Df K mg "word_at" s_word_at P_word_at
  df_words_at : Df K mg "words_at" s_words_at P_words_at
  df_read : Df K mg "read" s_read P_read
  df__law_mix : Df K mg "_law_mix" s_law_mix P_law_mix
  df__law_next : Df K mg "_law_next" s_law_next P_law_next
  df__law_alike : Df K mg "_law_alike" s_law_alike P_law_alike
  df__law_pick : Df K mg "_law_pick" s_law_pick P_law_pick
  df__law_parts : Df K mg "_law_parts" s_law_parts P_law_parts
  df__law_rule : Df K mg "_law_rule" s_law_rule P_law_rule
  df__law_words : Df K mg "_law_words" s_law_words P_law_words
  df__law_draw : Df K mg "_law_draw" s_law_draw P_law_draw
  df__law_is_line : Df K mg "_law_is_line" s_law_is_line P_law_is_line
  df__law_first_wrong : Df K mg "_law_first_wrong" s_law_first_wrong P_law_first_wrong
  df__law_answer : Df K mg "_law_answer" s_law_answer P_law_answer
  e_InvalidLine_InvalidLine : PySem.W.exmOne K (.ref a.kInvalidLine) (.ref a.kInvalidLine) = some true
  xs_InvalidLine : ExcC K a.kInvalidLine
  ki_InvalidLine_FindError : PySem.W.kitOne K (.ref a.kInvalidLine) (.ref a.kFindError) = some true
  gx_FindError : mg "FindError" = some (.ref a.kFindError)
  gx_InvalidLine : mg "InvalidLine" = some (.ref a.kInvalidLine)
  x_InvalidLine : Xc P w K mg "InvalidLine" a.kInvalidLine ["line"]
  xf_InvalidLine : XfC K a.kInvalidLine
  no_InvalidLine_line : PySem.W.findIn K (.ref a.kInvalidLine) "line" = some none
section
variable {P : Program} {w : World} {K : PySem.W.Frag} {mg : Str → Option Value} {base : Heap} {a : Ad}
theorem b_is_integer (T : Txt P K mg w a)  : Body P w K mg base "is_integer" s_is_integer N_is_integer 0 (r_is_integer a) := by
  intro f cdv A outer s H E g
  unfold r_is_integer
  exact (psd_one (psd_ret (pd_and (pd_isT "int" T.n_isinstance (pda_cons (pd_var 0) (pda_cons (pd_bltn (v := .ty "int") (by rfl) T.n_int PyProof.Rows.boot_int rfl) pda_nil))) (pd_and (pd_not (pd_isT "bool" T.n_isinstance (pda_cons (pd_var 0) (pda_cons (pd_bltn (v := .ty "bool") (by rfl) T.n_bool PyProof.Rows.boot_bool rfl) pda_nil)))) (pd_one (pd_le2 (pd_var 1) (pd_var 0) (pd_var 2)))))))
theorem b_is_word (T : Txt P K mg w a)  : Body P w K mg base "is_word" s_is_word N_is_word 0 (r_is_word a) := by
  intro f cdv A outer s H E g
  unfold r_is_word
  exact (psd_one (psd_ret (pd_and (pd_isT "str" T.n_isinstance (pda_cons (pd_var 0) (pda_cons (pd_bltn (v := .ty "str") (by rfl) T.n_str PyProof.Rows.boot_str rfl) pda_nil))) (pd_one (pd_in g.hu (pd_var 0) (pd_var 1))))))
theorem b_check_rule (T : Txt P K mg w a) (c_is_word : Cal P w K mg base 1 "is_word" 2 (ct_is_word a)) : Body P w K mg base "check_rule" s_check_rule N_check_rule 1 (r_check_rule a) := by
  intro f cdv A outer s H E g
  unfold r_check_rule
  exact (psd_cons (psd_if (pdt_w (pdw_or (pdt_not (pdt_val (pd_isT "dict" T.n_isinstance (pda_cons (pd_var 0) (pda_cons (pd_bltn (v := .ty "dict") (by rfl) T.n_dict PyProof.Rows.boot_dict rfl) pda_nil))))) (pdw_or (pdt_ne g (pd_len T.n_len (pda_cons (pd_var 0) pda_nil)) (pd_lenP T.D_PARTS T.n_len (pda_cons (pd_glob (v := .ref a.cPARTS) (by rfl) T.g_PARTS rfl (fun _ _ => Is.vv _)) pda_nil))) (pdw_or1 (pdt_not (pdt_val (pd_all g T.n_all (pda_cons (pd_lc (own := ([("part", 1)] : List (Str × Nat))) g (pdi_any (pd_var 0)) (blkOk_of (N := N_check_rule) (sc := (defScope s_check_rule)) (own := ([("part", 1)] : List (Str × Nat))) (by decide +kernel)) (by decide) (fun _ _ _ _ _ => (pdg_nm 1 g.nd)) (fun _ _ _ _ _ g => pdts_nil) (fun _ _ _ _ _ g => (pd_call c_is_word g (pda_cons (pd_var 1) (pda_cons (pd_listP T.D_PARTS g T.n_list (pda_cons (pd_glob (v := .ref a.cPARTS) (by rfl) T.g_PARTS rfl (fun _ _ => Is.vv _)) pda_nil)) pda_nil))))) pda_nil)))))))) (psd_one psd_never) psd_nil)
    (psd_one (psd_for g.po g.calm (pdi_itemsP T.D_PARTS T.l_PARTS (pd_glob (v := .ref a.cPARTS) (by rfl) T.g_PARTS rfl (fun _ _ => Is.vv _))) (pdg_tp g.calm (pgd_cons 1 g.nd (pgd_cons 2 g.nd pgd_nil))) (psd_one (psd_if (pdt_not (pdt_val (pd_call c_is_word g (pda_cons (pd_ix (pd_var 0) (pd_var 1)) (pda_cons (pd_var 2) pda_nil))))) (psd_one psd_never) psd_nil)))))
theorem b_Book_init (T : Txt P K mg w a) (c_check_rule : Cal P w K mg base 2 "check_rule" 1 (ct_check_rule a)) (c_is_integer : Cal P w K mg base 1 "is_integer" 3 (ct_is_integer a)) (c_is_word : Cal P w K mg base 1 "is_word" 2 (ct_is_word a)) : Body P w K mg base "Book.__init__" s_Book_init N_Book_init 2 (r_Book_init a) := by
  intro f cdv A outer s H E g
  unfold r_Book_init
  exact (psd_cons (psd_if (pdt_not (pdt_val (pd_call c_is_integer g (pda_cons (pd_var 1) (pda_cons pd_int (pda_cons pd_int pda_nil)))))) (psd_one psd_never) psd_nil)
    (psd_cons (psd_expr (pd_call c_check_rule g (pda_cons (pd_var 2) pda_nil)))
    (psd_cons (psd_if (pdt_w (pdw_or (pdt_not (pdt_val (pd_isT "tuple" T.n_isinstance (pda_cons (pd_var 3) (pda_cons (pd_bltn (v := .ty "tuple") (by rfl) T.n_tuple PyProof.Rows.boot_tuple rfl) pda_nil))))) (pdw_or1 (pdt_not (pdt_val (pd_all g T.n_all (pda_cons (pd_lc (own := ([("word", 5)] : List (Str × Nat))) g (pdi_any (pd_var 3)) (blkOk_of (N := N_Book_init) (sc := (defScope s_Book_init)) (own := ([("word", 5)] : List (Str × Nat))) (by decide +kernel)) (by decide) (fun _ _ _ _ _ => (pdg_nm 5 g.nd)) (fun _ _ _ _ _ g => pdts_nil) (fun _ _ _ _ _ g => (pd_call c_is_word g (pda_cons (pd_var 5) (pda_cons (pd_glob (v := .ref a.cWORDS) (by rfl) T.g_WORDS rfl T.i_WORDS) pda_nil))))) pda_nil))))))) (psd_one psd_never) psd_nil)
    (psd_cons (psd_if (pdt_ne g (pd_lc (own := ([("word", 5)] : List (Str × Nat))) g (pdi_any (pd_glob (v := .ref a.cWORDS) (by rfl) T.g_WORDS rfl T.i_WORDS)) (blkOk_of (N := N_Book_init) (sc := (defScope s_Book_init)) (own := ([("word", 5)] : List (Str × Nat))) (by decide +kernel)) (by decide) (fun _ _ _ _ _ => (pdg_nm 5 g.nd)) (fun _ _ _ _ _ g => (pdts_one (pdt_in g.hu (pd_var 5) (pd_var 3)))) (fun _ _ _ _ _ g => (pd_var 5))) (pd_listC false g T.n_list (pda_cons (pd_var 3) pda_nil))) (psd_one psd_never) psd_nil)
    (psd_cons (psd_fld T.at_Book_highest (pd_var 0) (pd_var 1))
    (psd_cons (psd_fld T.at_Book_terms (pd_var 0) (pd_dc (own := ([("part", 4)] : List (Str × Nat))) g (pdi_keysP T.D_PARTS (pd_glob (v := .ref a.cPARTS) (by rfl) T.g_PARTS rfl (fun _ _ => Is.vv _))) (blkOk_of (N := N_Book_init) (sc := (defScope s_Book_init)) (own := ([("part", 4)] : List (Str × Nat))) (by decide +kernel)) (by decide) (fun _ _ _ _ _ => (pdg_nm 4 g.nd)) (fun _ _ _ _ _ g => pdts_nil) (fun _ _ _ _ _ g => (pd_var 4)) (fun _ _ _ _ _ g => (pd_ix (pd_var 2) (pd_var 4)))))
    (psd_one (psd_fld T.at_Book_kinds (pd_var 0) (pd_var 3)))))))))
theorem b_line_at (T : Txt P K mg w a)  : Body P w K mg base "line_at" s_line_at N_line_at 3 (r_line_at a) := by
  intro f cdv A outer s H E g
  unfold r_line_at
  exact (psd_cons (psd_if (pdt_ge (pd_var 1) (pd_len T.n_len (pda_cons (pd_var 0) pda_nil))) (psd_one (psd_raise1 T.x_InvalidLine g (pda_cons (pd_add (pd_len T.n_len (pda_cons (pd_var 0) pda_nil)) pd_int) pda_nil))) psd_nil)
    (psd_one (psd_ret (pd_split (pd_ix (pd_var 0) (pd_var 1)) (pda_cons pd_str pda_nil)))))
theorem b_word_at (T : Txt P K mg w a) (c_line_at : Cal P w K mg base 4 "line_at" 2 (ct_line_at a)) : Body P w K mg base "word_at" s_word_at N_word_at 4 (r_word_at a) := by
  intro f cdv A outer s H E g
  unfold r_word_at
  exact (psd_cons (psd_set 4 g.nd (pd_call c_line_at g (pda_cons (pd_var 0) (pda_cons (pd_var 1) pda_nil))))
    (psd_cons (psd_if (pdt_w (pdw_or (pdt_ne g (pd_len T.n_len (pda_cons (pd_var 4) pda_nil)) pd_int) (pdw_or (pdt_ne g (pd_ix (pd_var 4) pd_int) (pd_var 2)) (pdw_or1 (pdt_notIn g.hu (pd_ix (pd_var 4) pd_int) (pd_var 3)))))) (psd_one (psd_raise1 T.x_InvalidLine g (pda_cons (pd_add (pd_var 1) pd_int) pda_nil))) psd_nil)
    (psd_one (psd_ret (pd_ix (pd_var 4) pd_int)))))
theorem b_words_at (T : Txt P K mg w a) (c_line_at : Cal P w K mg base 4 "line_at" 2 (ct_line_at a)) : Body P w K mg base "words_at" s_words_at N_words_at 4 (r_words_at a) := by
  intro f cdv A outer s H E g
  unfold r_words_at
  exact (psd_cons (psd_set 2 g.nd (pd_call c_line_at g (pda_cons (pd_var 0) (pda_cons (pd_var 1) pda_nil))))
    (psd_cons (psd_if (pdt_w (pdw_or (pdt_ne g (pd_ix (pd_var 2) pd_int) pd_str) (pdw_or1 (pdt_ne g (pd_lc (own := ([("word", 3)] : List (Str × Nat))) g (pdi_any (pd_glob (v := .ref a.cWORDS) (by rfl) T.g_WORDS rfl T.i_WORDS)) (blkOk_of (N := N_words_at) (sc := (defScope s_words_at)) (own := ([("word", 3)] : List (Str × Nat))) (by decide +kernel)) (by decide) (fun _ _ _ _ _ => (pdg_nm 3 g.nd)) (fun _ _ _ _ _ g => (pdts_one (pdt_in g.hu (pd_var 3) (pd_slice (pd_var 2) (pdo_some pd_int) pdo_none)))) (fun _ _ _ _ _ g => (pd_var 3))) (pd_slice (pd_var 2) (pdo_some pd_int) pdo_none))))) (psd_one (psd_raise1 T.x_InvalidLine g (pda_cons (pd_add (pd_var 1) pd_int) pda_nil))) psd_nil)
    (psd_one (psd_ret (pd_tupC T.n_tuple (pda_cons (pd_slice (pd_var 2) (pdo_some pd_int) pdo_none) pda_nil))))))
theorem b_read (T : Txt P K mg w a) (c_word_at : Cal P w K mg base 5 "word_at" 4 (ct_word_at a)) (c_words_at : Cal P w K mg base 5 "words_at" 2 (ct_words_at a)) (m_Book : Cml P w K mg base 3 "Book" a.kBook 3 (cm_Book a)) : Body P w K mg base "read" s_read N_read 5 (r_read a) := by
  intro f cdv A outer s H E g
  unfold r_read
  exact (psd_cons (psd_par3 1 2 3 g.calm g.nd (pda_cons (pd_split (pd_var 0) (pda_cons pd_str pda_nil)) (pda_cons pd_dnew (pda_cons pd_int pda_nil))))
    (psd_cons (psd_set 4 g.nd (pd_intC T.n_int (pda_cons (pd_call c_word_at g (pda_cons (pd_var 1) (pda_cons pd_int (pda_cons pd_str (pda_cons (pd_glob (v := .ref a.cPRICES) (by rfl) T.g_PRICES rfl T.i_PRICES) pda_nil))))) pda_nil)))
    (psd_cons (psd_for g.po g.calm (pdi_itemsP T.D_PARTS T.l_PARTS (pd_glob (v := .ref a.cPARTS) (by rfl) T.g_PARTS rfl (fun _ _ => Is.vv _))) (pdg_tp g.calm (pgd_cons 5 g.nd (pgd_cons 6 g.nd pgd_nil))) (psd_cons (psd_asgD (pd_call c_word_at g (pda_cons (pd_var 1) (pda_cons (pd_var 3) (pda_cons (pd_var 5) (pda_cons (pd_var 6) pda_nil))))) (pgd_sub g.hu (pd_var 2) (pd_var 5)))
    (psd_one (psd_aug 3 g.nd pd_int ip_add))))
    (psd_cons (psd_set 7 g.nd (pd_call c_words_at g (pda_cons (pd_var 1) (pda_cons (pd_var 3) pda_nil))))
    (psd_cons (psd_if (pdt_gt (pd_len T.n_len (pda_cons (pd_var 1) pda_nil)) (pd_add (pd_var 3) pd_int)) (psd_one (psd_raise1 T.x_InvalidLine g (pda_cons (pd_add (pd_var 3) pd_int) pda_nil))) psd_nil)
    (psd_one (psd_ret (pd_make m_Book g (pda_cons (pd_var 4) (pda_cons (pd_frz (pd_var 2)) (pda_cons (pd_var 7) pda_nil)))))))))))
theorem b_law_mix (T : Txt P K mg w a)  : Body P w K mg base "_law_mix" s_law_mix N_law_mix 0 (r_law_mix a) := by
  intro f cdv A outer s H E g
  unfold r_law_mix
  exact (psd_cons (psd_set 2 g.nd (pd_var 1))
    (psd_cons (psd_for g.po g.calm (pdi_any (pd_var 0)) (pdg_nm 3 g.nd) (psd_one (psd_set 2 g.nd (pd_mod (pd_intC T.n_int (pda_cons (pd_add (pd_add (pd_mul (pd_var 2) pd_int) (pd_mod (pd_intC T.n_int (pda_cons (pd_var 3) pda_nil)) pd_int)) pd_int) pda_nil)) pd_int))))
    (psd_one (psd_ret (pd_lstM (pda_cons (pd_var 2) (pda_cons (pd_listC true g T.n_list (pda_cons (pd_var 0) pda_nil)) (pda_cons pd_int pda_nil))))))))
theorem b_law_next (T : Txt P K mg w a)  : Body P w K mg base "_law_next" s_law_next N_law_next 0 (r_law_next a) := by
  intro f cdv A outer s H E g
  unfold r_law_next
  exact (psd_cons (psd_set 2 g.nd (pd_ix (pd_add (pd_ix (pd_var 0) pd_int) (pd_lst (pda_cons pd_int pda_nil))) (pd_mod (pd_intC T.n_int (pda_cons (pd_ix (pd_var 0) pd_int) pda_nil)) (pd_max2 g T.n_max (pda_cons pd_int (pda_cons (pd_len T.n_len (pda_cons (pd_ix (pd_var 0) pd_int) pda_nil)) pda_nil))))))
    (psd_cons (psd_if (pdt_ge (pd_var 2) (pd_pow pd_int pd_int)) (psd_cons (psd_asgD (pd_fdiv (pd_var 2) (pd_var 1)) (pgd_sub g.hu (pd_ix (pd_var 0) pd_int) (pd_mod (pd_intC T.n_int (pda_cons (pd_ix (pd_var 0) pd_int) pda_nil)) (pd_len T.n_len (pda_cons (pd_ix (pd_var 0) pd_int) pda_nil)))))
    (psd_one (psd_ret (pd_mod (pd_intC T.n_int (pda_cons (pd_var 2) pda_nil)) (pd_var 1))))) psd_nil)
    (psd_cons (psd_asgD (pd_mod (pd_intC T.n_int (pda_cons (pd_add (pd_add (pd_mul (pd_ix (pd_var 0) pd_int) pd_int) (pd_mul (pd_var 2) pd_int)) pd_int) pda_nil)) pd_int) (pgd_sub g.hu (pd_var 0) pd_int))
    (psd_cons (psd_asgD (pd_add (pd_ix (pd_var 0) pd_int) pd_int) (pgd_sub g.hu (pd_var 0) pd_int))
    (psd_one (psd_ret (pd_mod (pd_intC T.n_int (pda_cons (pd_fdiv (pd_ix (pd_var 0) pd_int) pd_int) pda_nil)) (pd_var 1))))))))
theorem b_law_alike (T : Txt P K mg w a) {l : Nat} {rec : Ct} (hl : 0 ≤ l) (c_rec : Cal P w K mg base l "_law_alike" 2 rec)  : Body P w K mg base "_law_alike" s_law_alike N_law_alike l (r_law_alike a rec) := by
  intro f cdv A outer s H E g
  unfold r_law_alike
  exact (psd_cons (psd_if (pdt_val (pd_isT "dict" T.n_isinstance (pda_cons (pd_var 1) (pda_cons (pd_bltn (v := .ty "dict") (by rfl) T.n_dict PyProof.Rows.boot_dict rfl) pda_nil)))) (psd_one (psd_ret (pd_and (pd_isT "dict" T.n_isinstance (pda_cons (pd_var 0) (pda_cons (pd_bltn (v := .ty "dict") (by rfl) T.n_dict PyProof.Rows.boot_dict rfl) pda_nil))) (pd_and (pd_call c_rec g (pda_cons (pd_listC false g T.n_list (pda_cons (pd_var 0) pda_nil)) (pda_cons (pd_listC false g T.n_list (pda_cons (pd_var 1) pda_nil)) pda_nil)) (by omega)) (pd_one (pd_eq g (pd_var 0) (pd_var 1))))))) psd_nil)
    (psd_cons (psd_if (pdt_val (pd_isTs "tuple" "list" T.n_isinstance T.n_tuple T.n_list PyProof.Rows.boot_tuple PyProof.Rows.boot_list (pd_var 1))) (psd_cons (psd_if (pdt_w (pdw_or (pdt_not (pdt_val (pd_isTs "tuple" "list" T.n_isinstance T.n_tuple T.n_list PyProof.Rows.boot_tuple PyProof.Rows.boot_list (pd_var 0)))) (pdw_or1 (pdt_ne g (pd_isT "list" T.n_isinstance (pda_cons (pd_var 0) (pda_cons (pd_bltn (v := .ty "list") (by rfl) T.n_list PyProof.Rows.boot_list rfl) pda_nil))) (pd_isT "list" T.n_isinstance (pda_cons (pd_var 1) (pda_cons (pd_bltn (v := .ty "list") (by rfl) T.n_list PyProof.Rows.boot_list rfl) pda_nil))))))) (psd_one (psd_ret pd_bl)) psd_nil)
    (psd_cons (psd_if (pdt_ne g (pd_len T.n_len (pda_cons (pd_var 0) pda_nil)) (pd_len T.n_len (pda_cons (pd_var 1) pda_nil))) (psd_one (psd_ret pd_bl)) psd_nil)
    (psd_one (psd_ret (pd_eq g (pd_lc (own := ([("_law_k", 2)] : List (Str × Nat))) g (pdi_range1 (by rfl) T.n_range (pda_cons (pd_len T.n_len (pda_cons (pd_var 1) pda_nil)) pda_nil)) (blkOk_of (N := N_law_alike) (sc := (defScope s_law_alike)) (own := ([("_law_k", 2)] : List (Str × Nat))) (by decide +kernel)) (by decide) (fun _ _ _ _ _ => (pdg_nm 2 g.nd)) (fun _ _ _ _ _ g => (pdts_one (pdt_not (pdt_val (pd_call c_rec g (pda_cons (pd_ix (pd_var 0) (pd_var 2)) (pda_cons (pd_ix (pd_var 1) (pd_var 2)) pda_nil)) (by omega)))))) (fun _ _ _ _ _ g => (pd_var 2))) (pd_lst pda_nil)))))) psd_nil)
    (psd_cons (psd_if (pdt_w (pdw_or (pdt_is (pd_var 1) pd_non) (pdw_or1 (pdt_val (pd_isT "str" T.n_isinstance (pda_cons (pd_var 1) (pda_cons (pd_bltn (v := .ty "str") (by rfl) T.n_str PyProof.Rows.boot_str rfl) pda_nil))))))) (psd_one (psd_ret (pd_and (pd_eq g (pd_var 0) (pd_var 1)) (pd_one (pd_eq g (pd_isT "str" T.n_isinstance (pda_cons (pd_var 0) (pda_cons (pd_bltn (v := .ty "str") (by rfl) T.n_str PyProof.Rows.boot_str rfl) pda_nil))) (pd_isT "str" T.n_isinstance (pda_cons (pd_var 1) (pda_cons (pd_bltn (v := .ty "str") (by rfl) T.n_str PyProof.Rows.boot_str rfl) pda_nil)))))))) psd_nil)
    (psd_one (psd_ret (pd_and (pd_isT "int" T.n_isinstance (pda_cons (pd_var 0) (pda_cons (pd_bltn (v := .ty "int") (by rfl) T.n_int PyProof.Rows.boot_int rfl) pda_nil))) (pd_and (pd_eq g (pd_isT "bool" T.n_isinstance (pda_cons (pd_var 0) (pda_cons (pd_bltn (v := .ty "bool") (by rfl) T.n_bool PyProof.Rows.boot_bool rfl) pda_nil))) (pd_isT "bool" T.n_isinstance (pda_cons (pd_var 1) (pda_cons (pd_bltn (v := .ty "bool") (by rfl) T.n_bool PyProof.Rows.boot_bool rfl) pda_nil)))) (pd_one (pd_eq g (pd_var 0) (pd_var 1))))))))))
theorem b_law_pick (T : Txt P K mg w a) (c__law_next : Cal P w K mg base 1 "_law_next" 2 (ct__law_next a)) : Body P w K mg base "_law_pick" s_law_pick N_law_pick 1 (r_law_pick a) := by
  intro f cdv A outer s H E g
  unfold r_law_pick
  exact (psd_one (psd_ret (pd_ix (pd_var 1) (pd_call c__law_next g (pda_cons (pd_var 0) (pda_cons (pd_len T.n_len (pda_cons (pd_var 1) pda_nil)) pda_nil))))))
theorem b_law_parts (T : Txt P K mg w a)  : Body P w K mg base "_law_parts" s_law_parts N_law_parts 0 (r_law_parts a) := by
  intro f cdv A outer s H E g
  unfold r_law_parts
  exact (psd_cons (psd_set 0 g.nd (pd_lstM (pda_cons (pd_lst (pda_cons pd_str (pda_cons pd_str (pda_cons pd_str pda_nil)))) (pda_cons (pd_lst (pda_cons pd_str (pda_cons pd_str (pda_cons pd_str pda_nil)))) (pda_cons (pd_lst (pda_cons pd_str (pda_cons pd_str (pda_cons pd_str pda_nil)))) pda_nil)))))
    (psd_cons (psd_expr (pd_append (pd_var 0) (pda_cons (pd_lst (pda_cons pd_str (pda_cons pd_str (pda_cons pd_str (pda_cons pd_str pda_nil))))) pda_nil)))
    (psd_one (psd_ret (pd_add (pd_var 0) (pd_lst (pda_cons (pd_lst (pda_cons pd_str (pda_cons pd_str (pda_cons pd_str pda_nil)))) (pda_cons (pd_lst (pda_cons pd_str (pda_cons pd_str (pda_cons pd_str pda_nil)))) pda_nil))))))))
theorem b_law_rule (T : Txt P K mg w a) (c__law_next : Cal P w K mg base 1 "_law_next" 2 (ct__law_next a)) (c__law_parts : Cal P w K mg base 1 "_law_parts" 0 (ct__law_parts a)) (c__law_pick : Cal P w K mg base 2 "_law_pick" 2 (ct__law_pick a)) : Body P w K mg base "_law_rule" s_law_rule N_law_rule 2 (r_law_rule a) := by
  intro f cdv A outer s H E g
  unfold r_law_rule
  exact (psd_cons (psd_set 1 g.nd pd_dnew)
    (psd_cons (psd_for g.po g.calm (pdi_any (pd_call0 c__law_parts g)) (pdg_nm 2 g.nd) (psd_one (psd_asgD (pd_call c__law_pick g (pda_cons (pd_var 0) (pda_cons (pd_slice (pd_var 2) (pdo_some pd_int) pdo_none) pda_nil))) (pgd_sub g.hu (pd_var 1) (pd_ix (pd_var 2) pd_int)))))
    (psd_cons (psd_if (pdt_eq g (pd_call c__law_next g (pda_cons (pd_var 0) (pda_cons pd_int pda_nil))) pd_int) (psd_one (psd_asgD pd_str (pgd_sub g.hu (pd_var 1) pd_str))) psd_nil)
    (psd_one (psd_ret (pd_frz (pd_var 1)))))))
theorem b_law_words (T : Txt P K mg w a) (c__law_next : Cal P w K mg base 1 "_law_next" 2 (ct__law_next a)) (c__law_pick : Cal P w K mg base 2 "_law_pick" 2 (ct__law_pick a)) : Body P w K mg base "_law_words" s_law_words N_law_words 2 (r_law_words a) := by
  intro f cdv A outer s H E g
  unfold r_law_words
  exact (psd_cons (psd_set 2 g.nd (pd_lst (pda_cons pd_str (pda_cons pd_str (pda_cons pd_str (pda_cons pd_str (pda_cons pd_str (pda_cons pd_str pda_nil))))))))
    (psd_cons (psd_set 3 g.nd (pd_lc (own := ([("_law_k", 4)] : List (Str × Nat))) g (pdi_range1 (by rfl) T.n_range (pda_cons (pd_call c__law_next g (pda_cons (pd_var 0) (pda_cons (pd_add (pd_var 1) pd_int) pda_nil))) pda_nil)) (blkOk_of (N := N_law_words) (sc := (defScope s_law_words)) (own := ([("_law_k", 4)] : List (Str × Nat))) (by decide +kernel)) (by decide) (fun _ _ _ _ _ => (pdg_nm 4 g.nd)) (fun _ _ _ _ _ g => pdts_nil) (fun _ _ _ _ _ g => (pd_call c__law_pick g (pda_cons (pd_var 0) (pda_cons (pd_var 2) pda_nil))))))
    (psd_one (psd_ret (pd_tupC T.n_tuple (pda_cons (pd_lc (own := ([("_law_word", 5)] : List (Str × Nat))) g (pdi_any (pd_var 2)) (blkOk_of (N := N_law_words) (sc := (defScope s_law_words)) (own := ([("_law_word", 5)] : List (Str × Nat))) (by decide +kernel)) (by decide) (fun _ _ _ _ _ => (pdg_nm 5 g.nd)) (fun _ _ _ _ _ g => (pdts_one (pdt_in g.hu (pd_var 5) (pd_var 3)))) (fun _ _ _ _ _ g => (pd_var 5))) pda_nil))))))
theorem b_law_draw (T : Txt P K mg w a) (c__law_rule : Cal P w K mg base 3 "_law_rule" 1 (ct__law_rule a)) (c__law_words : Cal P w K mg base 3 "_law_words" 2 (ct__law_words a)) : Body P w K mg base "_law_draw" s_law_draw N_law_draw 3 (r_law_draw a) := by
  intro f cdv A outer s H E g
  unfold r_law_draw
  exact (psd_one (psd_ret (pd_lst (pda_cons pd_int (pda_cons (pd_call c__law_rule g (pda_cons (pd_var 0) pda_nil)) (pda_cons (pd_call c__law_words g (pda_cons (pd_var 0) (pda_cons pd_int pda_nil))) pda_nil))))))
theorem b_law_is_line (T : Txt P K mg w a) (c__law_parts : Cal P w K mg base 1 "_law_parts" 0 (ct__law_parts a)) : Body P w K mg base "_law_is_line" s_law_is_line N_law_is_line 1 (r_law_is_line a) := by
  intro f cdv A outer s H E g
  unfold r_law_is_line
  exact (psd_cons (psd_if (pdt_eq g (pd_var 1) pd_int) (psd_one (psd_ret (pd_in g.hu (pd_var 0) (pd_lst (pda_cons (pd_lst (pda_cons pd_str (pda_cons pd_str pda_nil))) (pda_cons (pd_lst (pda_cons pd_str (pda_cons pd_str pda_nil))) pda_nil)))))) psd_nil)
    (psd_cons (psd_if (pdt_lt (pd_var 1) pd_int) (psd_cons (psd_set 3 g.nd (pd_ix (pd_call0 c__law_parts g) (pd_sub (pd_var 1) pd_int)))
    (psd_one (psd_ret (pd_and (pd_eq g (pd_len T.n_len (pda_cons (pd_var 0) pda_nil)) pd_int) (pd_and (pd_eq g (pd_ix (pd_var 0) pd_int) (pd_ix (pd_var 3) pd_int)) (pd_one (pd_in g.hu (pd_ix (pd_var 0) pd_int) (pd_slice (pd_var 3) (pdo_some pd_int) pdo_none)))))))) psd_nil)
    (psd_cons (psd_if (pdt_w (pdw_or (pdt_gt (pd_var 1) pd_int) (pdw_or1 (pdt_ne g (pd_ix (pd_var 0) pd_int) pd_str)))) (psd_one (psd_ret pd_bl)) psd_nil)
    (psd_cons (psd_set 2 g.nd (pd_lst (pda_cons pd_str (pda_cons pd_str (pda_cons pd_str (pda_cons pd_str (pda_cons pd_str (pda_cons pd_str pda_nil))))))))
    (psd_one (psd_ret (pd_eq g (pd_lc (own := ([("_law_word", 4)] : List (Str × Nat))) g (pdi_any (pd_var 2)) (blkOk_of (N := N_law_is_line) (sc := (defScope s_law_is_line)) (own := ([("_law_word", 4)] : List (Str × Nat))) (by decide +kernel)) (by decide) (fun _ _ _ _ _ => (pdg_nm 4 g.nd)) (fun _ _ _ _ _ g => (pdts_one (pdt_in g.hu (pd_var 4) (pd_slice (pd_var 0) (pdo_some pd_int) pdo_none)))) (fun _ _ _ _ _ g => (pd_var 4))) (pd_slice (pd_var 0) (pdo_some pd_int) pdo_none))))))))
theorem b_law_first_wrong (T : Txt P K mg w a) (c__law_is_line : Cal P w K mg base 2 "_law_is_line" 2 (ct__law_is_line a)) : Body P w K mg base "_law_first_wrong" s_law_first_wrong N_law_first_wrong 2 (r_law_first_wrong a) := by
  intro f cdv A outer s H E g
  unfold r_law_first_wrong
  exact (psd_cons (psd_for g.po g.calm (pdi_range1 (by rfl) T.n_range (pda_cons (pd_len T.n_len (pda_cons (pd_var 0) pda_nil)) pda_nil)) (pdg_nm 1 g.nd) (psd_one (psd_if (pdt_not (pdt_val (pd_call c__law_is_line g (pda_cons (pd_split (pd_ix (pd_var 0) (pd_var 1)) (pda_cons pd_str pda_nil)) (pda_cons (pd_var 1) pda_nil))))) (psd_one (psd_ret (pd_add (pd_var 1) pd_int))) psd_nil)))
    (psd_one (psd_ret (pd_if (pdt_lt (pd_len T.n_len (pda_cons (pd_var 0) pda_nil)) pd_int) (pd_add (pd_len T.n_len (pda_cons (pd_var 0) pda_nil)) pd_int) pd_non))))
theorem b_law_answer (T : Txt P K mg w a) (c_read : Cal P w K mg base 6 "read" 1 (ct_read a)) : Body P w K mg base "_law_answer" s_law_answer N_law_answer 6 (r_law_answer a) := by
  intro f cdv A outer s H E g
  unfold r_law_answer
  exact (psd_cons (psd_set 1 g.nd pd_non)
    (psd_cons (psd_try g (fun W' pn xe g => (psd_one (psd_expr (pd_call c_read g (pda_cons (pd_var 0) pda_nil))))) (.named 2 ⟨by rfl, by decide, .inl T.gx_InvalidLine⟩ (mof_ok (m1 T.e_InvalidLine_InvalidLine m0)) (by rfl) (by rfl) (pxs_set 1 g.nd (pxe_if (hN_of T.xs_InvalidLine T.ki_InvalidLine_FindError) T.n_isinstance T.gx_FindError (pxe_fld T.xf_InvalidLine T.no_InvalidLine_line (j := 2)))) .nil))
    (psd_one (psd_ret (pd_var 1)))))
theorem b_law (T : Txt P K mg w a) (c__law_alike : Cal P w K mg base 1 "_law_alike" 2 (ct__law_alike a)) (c__law_answer : Cal P w K mg base 7 "_law_answer" 1 (ct__law_answer a)) (c__law_draw : Cal P w K mg base 4 "_law_draw" 1 (ct__law_draw a)) (c__law_first_wrong : Cal P w K mg base 3 "_law_first_wrong" 1 (ct__law_first_wrong a)) (c__law_mix : Cal P w K mg base 1 "_law_mix" 2 (ct__law_mix a)) (c__law_next : Cal P w K mg base 1 "_law_next" 2 (ct__law_next a)) (c__law_parts : Cal P w K mg base 1 "_law_parts" 0 (ct__law_parts a)) (c__law_pick : Cal P w K mg base 2 "_law_pick" 2 (ct__law_pick a)) : Body P w K mg base "law" s_law N_law 7 (r_law a) := by
  intro f cdv A outer s H E g
  unfold r_law
  exact (psd_cons (psd_set 1 g.nd (pd_call c__law_mix g (pda_cons (pd_var 0) (pda_cons pd_int pda_nil))))
    (psd_cons (psd_set 2 g.nd (pd_lst (pda_cons pd_str (pda_cons pd_str (pda_cons pd_str (pda_cons pd_str (pda_cons pd_str (pda_cons pd_str pda_nil))))))))
    (psd_cons (psd_set 2 g.nd (pd_add (pd_var 2) (pd_lst (pda_cons pd_str (pda_cons pd_str (pda_cons pd_str pda_nil))))))
    (psd_cons (psd_set 2 g.nd (pd_add (pd_var 2) (pd_lst (pda_cons pd_str (pda_cons pd_str (pda_cons pd_str (pda_cons pd_str (pda_cons pd_str pda_nil))))))))
    (psd_cons (psd_set 2 g.nd (pd_add (pd_var 2) (pd_lst (pda_cons pd_str (pda_cons pd_str (pda_cons pd_str pda_nil))))))
    (psd_cons (psd_for g.po g.calm (pdi_range1 (by rfl) T.n_range (pda_cons pd_int pda_nil)) (pdg_nm 3 g.nd) (psd_cons (psd_set 4 g.nd (pd_call c__law_draw g (pda_cons (pd_var 1) pda_nil)))
    (psd_cons (psd_set 5 g.nd (pd_add (pd_lst (pda_cons pd_str pda_nil)) (pd_lc (own := ([("_law_part", 9)] : List (Str × Nat))) g (pdi_any (pd_call0 c__law_parts g)) (blkOk_of (N := N_law) (sc := (defScope s_law)) (own := ([("_law_part", 9)] : List (Str × Nat))) (by decide +kernel)) (by decide) (fun _ _ _ _ _ => (pdg_nm 9 g.nd)) (fun _ _ _ _ _ g => pdts_nil) (fun _ _ _ _ _ g => (pd_add (pd_add (pd_ix (pd_var 9) pd_int) pd_str) (pd_ix (pd_ix (pd_var 4) pd_int) (pd_ix (pd_var 9) pd_int)))))))
    (psd_cons (psd_set 5 g.nd (pd_add (pd_var 5) (pd_lst (pda_cons (pd_join pd_str (pda_cons (pd_add (pd_lst (pda_cons pd_str pda_nil)) (pd_listC false g T.n_list (pda_cons (pd_ix (pd_var 4) pd_int) pda_nil))) pda_nil)) pda_nil))))
    (psd_cons (psd_for g.po g.calm (pdi_range1 (by rfl) T.n_range (pda_cons (pd_call c__law_next g (pda_cons (pd_var 1) (pda_cons pd_int pda_nil))) pda_nil)) (pdg_nm 6 g.nd) (psd_cons (psd_par 7 8 g.calm g.nd (pda_cons (pd_call c__law_next g (pda_cons (pd_var 1) (pda_cons (pd_add (pd_len T.n_len (pda_cons (pd_var 5) pda_nil)) pd_int) pda_nil))) (pda_cons (pd_call c__law_next g (pda_cons (pd_var 1) (pda_cons pd_int pda_nil))) pda_nil)))
    (psd_one (psd_if (pdt_eq g (pd_var 8) pd_int) (psd_one (psd_set 5 g.nd (pd_add (pd_add (pd_slice (pd_var 5) pdo_none (pdo_some (pd_var 7))) (pd_lst (pda_cons (pd_call c__law_pick g (pda_cons (pd_var 1) (pda_cons (pd_var 2) pda_nil))) pda_nil))) (pd_slice (pd_var 5) (pdo_some (pd_var 7)) pdo_none)))) (psd_one (psd_if (pdt_eq g (pd_var 8) pd_int) (psd_one (psd_set 5 g.nd (pd_add (pd_add (pd_slice (pd_var 5) pdo_none (pdo_some (pd_var 7))) (pd_lst (pda_cons (pd_call c__law_pick g (pda_cons (pd_var 1) (pda_cons (pd_var 2) pda_nil))) pda_nil))) (pd_slice (pd_var 5) (pdo_some (pd_add (pd_var 7) pd_int)) pdo_none)))) (psd_one (psd_set 5 g.nd (pd_if (pdt_w (pdw_and (pdt_eq g (pd_var 8) pd_int) (pdw_and1 (pdt_gt (pd_len T.n_len (pda_cons (pd_var 5) pda_nil)) pd_int)))) (pd_add (pd_slice (pd_var 5) pdo_none (pdo_some (pd_var 7))) (pd_slice (pd_var 5) (pdo_some (pd_add (pd_var 7) pd_int)) pdo_none)) (pd_add (pd_slice (pd_var 5) (pdo_some (pd_var 7)) pdo_none) (pd_slice (pd_var 5) pdo_none (pdo_some (pd_var 7)))))))))))))
    (psd_one (psd_if (pdt_not (pdt_val (pd_call c__law_alike g (pda_cons (pd_call c__law_answer g (pda_cons (pd_join pd_str (pda_cons (pd_var 5) pda_nil)) pda_nil)) (pda_cons (pd_call c__law_first_wrong g (pda_cons (pd_var 5) pda_nil)) pda_nil))))) (psd_one (psd_ret pd_bl)) psd_nil)))))))
    (psd_one (psd_ret (pd_eq g (pd_call c__law_answer g (pda_cons pd_str pda_nil)) pd_int)))))))))
theorem law_fn {f : Addr} {fd : FuncData} (T : Txt P K mg w a) (F : Fun K "law" "law" s_law f fd) : FnOk P w K mg base (L2.CX P w) 8 f fd P_law (spD K 1 (ct_law a)) := by
  have c_is_integer : Cal P w K mg base 1 "is_integer" 3 (ct_is_integer a) := T.df_is_integer.cal sc_is_integer (b_is_integer T ) covs_t
  have c_is_word : Cal P w K mg base 1 "is_word" 2 (ct_is_word a) := T.df_is_word.cal sc_is_word (b_is_word T ) covs_t
  have c_check_rule : Cal P w K mg base 2 "check_rule" 1 (ct_check_rule a) := T.df_check_rule.cal sc_check_rule (b_check_rule T c_is_word) covs_t
  have m_Book : Cml P w K mg base 3 "Book" a.kBook 3 (cm_Book a) := T.dc_Book.cml sc_Book_init (b_Book_init T c_check_rule c_is_integer c_is_word) covs_t
  have c_line_at : Cal P w K mg base 4 "line_at" 2 (ct_line_at a) := T.df_line_at.cal sc_line_at (b_line_at T ) covs_t
  have c_word_at : Cal P w K mg base 5 "word_at" 4 (ct_word_at a) := T.df_word_at.cal sc_word_at (b_word_at T c_line_at) covs_t
  have c_words_at : Cal P w K mg base 5 "words_at" 2 (ct_words_at a) := T.df_words_at.cal sc_words_at (b_words_at T c_line_at) covs_t
  have c_read : Cal P w K mg base 6 "read" 1 (ct_read a) := T.df_read.cal sc_read (b_read T c_word_at c_words_at m_Book) covs_t
  have c__law_mix : Cal P w K mg base 1 "_law_mix" 2 (ct__law_mix a) := T.df__law_mix.cal sc_law_mix (b_law_mix T ) covs_of
  have c__law_next : Cal P w K mg base 1 "_law_next" 2 (ct__law_next a) := T.df__law_next.cal sc_law_next (b_law_next T ) covs_t
  have c__law_alike_z : Cal P w K mg base 0 "_law_alike" 2 (fun _ _ => .bad) := T.df__law_alike.cal0
  have c__law_alike : Cal P w K mg base 1 "_law_alike" 2 (ct__law_alike_0 a) := T.df__law_alike.cal sc_law_alike (b_law_alike T (by decide) c__law_alike_z ) covs_t
  have c__law_pick : Cal P w K mg base 2 "_law_pick" 2 (ct__law_pick a) := T.df__law_pick.cal sc_law_pick (b_law_pick T c__law_next) covs_t
  have c__law_parts : Cal P w K mg base 1 "_law_parts" 0 (ct__law_parts a) := T.df__law_parts.cal sc_law_parts (b_law_parts T ) covs_t
  have c__law_rule : Cal P w K mg base 3 "_law_rule" 1 (ct__law_rule a) := T.df__law_rule.cal sc_law_rule (b_law_rule T c__law_next c__law_parts c__law_pick) covs_t
  have c__law_words : Cal P w K mg base 3 "_law_words" 2 (ct__law_words a) := T.df__law_words.cal sc_law_words (b_law_words T c__law_next c__law_pick) covs_t
  have c__law_draw : Cal P w K mg base 4 "_law_draw" 1 (ct__law_draw a) := T.df__law_draw.cal sc_law_draw (b_law_draw T c__law_rule c__law_words) covs_t
  have c__law_is_line : Cal P w K mg base 2 "_law_is_line" 2 (ct__law_is_line a) := T.df__law_is_line.cal sc_law_is_line (b_law_is_line T c__law_parts) covs_t
  have c__law_first_wrong : Cal P w K mg base 3 "_law_first_wrong" 1 (ct__law_first_wrong a) := T.df__law_first_wrong.cal sc_law_first_wrong (b_law_first_wrong T c__law_is_line) covs_t
  have c__law_answer : Cal P w K mg base 7 "_law_answer" 1 (ct__law_answer a) := T.df__law_answer.cal sc_law_answer (b_law_answer T c_read) covs_t
  exact fn_cal F sc_law (by decide) (b_law T c__law_alike c__law_answer c__law_draw c__law_first_wrong c__law_mix c__law_next c__law_parts c__law_pick f) (show Covs N_law P_law (ct_law a) (r_law a) from covs_of)
end
end
theorem all_mk {l : PySem.W.OpenLaw} {w : World} {K : PySem.W.Frag} {h : Heap} {mg : Str → Option Value} (X : K.In h) (G : h.Ns mainGlobals mg)
    {kInvalidLine : Addr} (gkInvalidLine : PySem.W.nsIn K mainGlobals "InvalidLine" = some (some (.ref kInvalidLine)))
    {kFindError : Addr} (gkFindError : PySem.W.nsIn K mainGlobals "FindError" = some (some (.ref kFindError)))
    {fa : Addr} (hfa : mg "law" = some (.ref fa))
    {kBook : Addr} (gkBook : PySem.W.nsIn K mainGlobals "Book" = some (some (.ref kBook)))
    {f0 : Addr} {od0 an0 : Option Addr} {sl0 : Array (Option Value)} {oc0 kV0 dc0 pm0 cd0 ct0 : Value}
    (a0 : PySem.W.nsIn K mainGlobals "is_integer" = some (some (.ref f0)))
    (l0 : K.lookup f0 = some ⟨oc0, od0, .func (PySem.W.fnOf "is_integer" "is_integer" (defArgs LX.s_is_integer) (defBody LX.s_is_integer) (defScope LX.s_is_integer) .none kV0 dc0 pm0 an0 cd0 ct0), sl0⟩)
    (c0 : PySem.W.codeIn K cd0 "is_integer" = true)
    (k0 : PySem.W.keepIn K (.ref f0) = true)
    {f1 : Addr} {od1 an1 : Option Addr} {sl1 : Array (Option Value)} {oc1 kV1 dc1 pm1 cd1 ct1 : Value}
    (a1 : PySem.W.nsIn K mainGlobals "is_word" = some (some (.ref f1)))
    (l1 : K.lookup f1 = some ⟨oc1, od1, .func (PySem.W.fnOf "is_word" "is_word" (defArgs LX.s_is_word) (defBody LX.s_is_word) (defScope LX.s_is_word) .none kV1 dc1 pm1 an1 cd1 ct1), sl1⟩)
    (c1 : PySem.W.codeIn K cd1 "is_word" = true)
    (k1 : PySem.W.keepIn K (.ref f1) = true)
    {f2 : Addr} {od2 an2 : Option Addr} {sl2 : Array (Option Value)} {oc2 kV2 dc2 pm2 cd2 ct2 : Value}
    (a2 : PySem.W.nsIn K mainGlobals "check_rule" = some (some (.ref f2)))
    (l2 : K.lookup f2 = some ⟨oc2, od2, .func (PySem.W.fnOf "check_rule" "check_rule" (defArgs LX.s_check_rule) (defBody LX.s_check_rule) (defScope LX.s_check_rule) .none kV2 dc2 pm2 an2 cd2 ct2), sl2⟩)
    (c2 : PySem.W.codeIn K cd2 "check_rule" = true)
    (k2 : PySem.W.keepIn K (.ref f2) = true)
    {f3 : Addr} {od3 an3 : Option Addr} {sl3 : Array (Option Value)} {oc3 kV3 dc3 pm3 cd3 ct3 : Value}
    (a3 : PySem.W.findIn K (.ref kBook) "__init__" = some (some (.ref f3)))
    (i3 : PySem.W.isFn K (.ref f3) = true)
    (l3 : K.lookup f3 = some ⟨oc3, od3, .func (PySem.W.fnOf "__init__" "Book.__init__" (defArgs LX.s_Book_init) (defBody LX.s_Book_init) (defScope LX.s_Book_init) .none kV3 dc3 pm3 an3 cd3 ct3), sl3⟩)
    (c3 : PySem.W.codeIn K cd3 "Book.__init__" = true)
    (k3 : PySem.W.keepIn K (.ref f3) = true)
    {f4 : Addr} {od4 an4 : Option Addr} {sl4 : Array (Option Value)} {oc4 kV4 dc4 pm4 cd4 ct4 : Value}
    (a4 : PySem.W.nsIn K mainGlobals "line_at" = some (some (.ref f4)))
    (l4 : K.lookup f4 = some ⟨oc4, od4, .func (PySem.W.fnOf "line_at" "line_at" (defArgs LX.s_line_at) (defBody LX.s_line_at) (defScope LX.s_line_at) .none kV4 dc4 pm4 an4 cd4 ct4), sl4⟩)
    (c4 : PySem.W.codeIn K cd4 "line_at" = true)
    (k4 : PySem.W.keepIn K (.ref f4) = true)
    {f5 : Addr} {od5 an5 : Option Addr} {sl5 : Array (Option Value)} {oc5 kV5 dc5 pm5 cd5 ct5 : Value}
    (a5 : PySem.W.nsIn K mainGlobals "word_at" = some (some (.ref f5)))
    (l5 : K.lookup f5 = some ⟨oc5, od5, .func (PySem.W.fnOf "word_at" "word_at" (defArgs LX.s_word_at) (defBody LX.s_word_at) (defScope LX.s_word_at) .none kV5 dc5 pm5 an5 cd5 ct5), sl5⟩)
    (c5 : PySem.W.codeIn K cd5 "word_at" = true)
    (k5 : PySem.W.keepIn K (.ref f5) = true)
    {f6 : Addr} {od6 an6 : Option Addr} {sl6 : Array (Option Value)} {oc6 kV6 dc6 pm6 cd6 ct6 : Value}
    (a6 : PySem.W.nsIn K mainGlobals "words_at" = some (some (.ref f6)))
    (l6 : K.lookup f6 = some ⟨oc6, od6, .func (PySem.W.fnOf "words_at" "words_at" (defArgs LX.s_words_at) (defBody LX.s_words_at) (defScope LX.s_words_at) .none kV6 dc6 pm6 an6 cd6 ct6), sl6⟩)
    (c6 : PySem.W.codeIn K cd6 "words_at" = true)
    (k6 : PySem.W.keepIn K (.ref f6) = true)
    {f7 : Addr} {od7 an7 : Option Addr} {sl7 : Array (Option Value)} {oc7 kV7 dc7 pm7 cd7 ct7 : Value}
    (a7 : PySem.W.nsIn K mainGlobals "read" = some (some (.ref f7)))
    (l7 : K.lookup f7 = some ⟨oc7, od7, .func (PySem.W.fnOf "read" "read" (defArgs LX.s_read) (defBody LX.s_read) (defScope LX.s_read) .none kV7 dc7 pm7 an7 cd7 ct7), sl7⟩)
    (c7 : PySem.W.codeIn K cd7 "read" = true)
    (k7 : PySem.W.keepIn K (.ref f7) = true)
    {f8 : Addr} {od8 an8 : Option Addr} {sl8 : Array (Option Value)} {oc8 kV8 dc8 pm8 cd8 ct8 : Value}
    (a8 : PySem.W.nsIn K mainGlobals "_law_mix" = some (some (.ref f8)))
    (l8 : K.lookup f8 = some ⟨oc8, od8, .func (PySem.W.fnOf "_law_mix" "_law_mix" (defArgs LX.s_law_mix) (defBody LX.s_law_mix) (defScope LX.s_law_mix) .none kV8 dc8 pm8 an8 cd8 ct8), sl8⟩)
    (c8 : PySem.W.codeIn K cd8 "_law_mix" = true)
    (k8 : PySem.W.keepIn K (.ref f8) = true)
    {f9 : Addr} {od9 an9 : Option Addr} {sl9 : Array (Option Value)} {oc9 kV9 dc9 pm9 cd9 ct9 : Value}
    (a9 : PySem.W.nsIn K mainGlobals "_law_next" = some (some (.ref f9)))
    (l9 : K.lookup f9 = some ⟨oc9, od9, .func (PySem.W.fnOf "_law_next" "_law_next" (defArgs LX.s_law_next) (defBody LX.s_law_next) (defScope LX.s_law_next) .none kV9 dc9 pm9 an9 cd9 ct9), sl9⟩)
    (c9 : PySem.W.codeIn K cd9 "_law_next" = true)
    (k9 : PySem.W.keepIn K (.ref f9) = true)
    {f10 : Addr} {od10 an10 : Option Addr} {sl10 : Array (Option Value)} {oc10 kV10 dc10 pm10 cd10 ct10 : Value}
    (a10 : PySem.W.nsIn K mainGlobals "_law_alike" = some (some (.ref f10)))
    (l10 : K.lookup f10 = some ⟨oc10, od10, .func (PySem.W.fnOf "_law_alike" "_law_alike" (defArgs LX.s_law_alike) (defBody LX.s_law_alike) (defScope LX.s_law_alike) .none kV10 dc10 pm10 an10 cd10 ct10), sl10⟩)
    (c10 : PySem.W.codeIn K cd10 "_law_alike" = true)
    (k10 : PySem.W.keepIn K (.ref f10) = true)
    {f11 : Addr} {od11 an11 : Option Addr} {sl11 : Array (Option Value)} {oc11 kV11 dc11 pm11 cd11 ct11 : Value}
    (a11 : PySem.W.nsIn K mainGlobals "_law_pick" = some (some (.ref f11)))
    (l11 : K.lookup f11 = some ⟨oc11, od11, .func (PySem.W.fnOf "_law_pick" "_law_pick" (defArgs LX.s_law_pick) (defBody LX.s_law_pick) (defScope LX.s_law_pick) .none kV11 dc11 pm11 an11 cd11 ct11), sl11⟩)
    (c11 : PySem.W.codeIn K cd11 "_law_pick" = true)
    (k11 : PySem.W.keepIn K (.ref f11) = true)
    {f12 : Addr} {od12 an12 : Option Addr} {sl12 : Array (Option Value)} {oc12 kV12 dc12 pm12 cd12 ct12 : Value}
    (a12 : PySem.W.nsIn K mainGlobals "_law_parts" = some (some (.ref f12)))
    (l12 : K.lookup f12 = some ⟨oc12, od12, .func (PySem.W.fnOf "_law_parts" "_law_parts" (defArgs LX.s_law_parts) (defBody LX.s_law_parts) (defScope LX.s_law_parts) .none kV12 dc12 pm12 an12 cd12 ct12), sl12⟩)
    (c12 : PySem.W.codeIn K cd12 "_law_parts" = true)
    (k12 : PySem.W.keepIn K (.ref f12) = true)
    {f13 : Addr} {od13 an13 : Option Addr} {sl13 : Array (Option Value)} {oc13 kV13 dc13 pm13 cd13 ct13 : Value}
    (a13 : PySem.W.nsIn K mainGlobals "_law_rule" = some (some (.ref f13)))
    (l13 : K.lookup f13 = some ⟨oc13, od13, .func (PySem.W.fnOf "_law_rule" "_law_rule" (defArgs LX.s_law_rule) (defBody LX.s_law_rule) (defScope LX.s_law_rule) .none kV13 dc13 pm13 an13 cd13 ct13), sl13⟩)
    (c13 : PySem.W.codeIn K cd13 "_law_rule" = true)
    (k13 : PySem.W.keepIn K (.ref f13) = true)
    {f14 : Addr} {od14 an14 : Option Addr} {sl14 : Array (Option Value)} {oc14 kV14 dc14 pm14 cd14 ct14 : Value}
    (a14 : PySem.W.nsIn K mainGlobals "_law_words" = some (some (.ref f14)))
    (l14 : K.lookup f14 = some ⟨oc14, od14, .func (PySem.W.fnOf "_law_words" "_law_words" (defArgs LX.s_law_words) (defBody LX.s_law_words) (defScope LX.s_law_words) .none kV14 dc14 pm14 an14 cd14 ct14), sl14⟩)
    (c14 : PySem.W.codeIn K cd14 "_law_words" = true)
    (k14 : PySem.W.keepIn K (.ref f14) = true)
    {f15 : Addr} {od15 an15 : Option Addr} {sl15 : Array (Option Value)} {oc15 kV15 dc15 pm15 cd15 ct15 : Value}
    (a15 : PySem.W.nsIn K mainGlobals "_law_draw" = some (some (.ref f15)))
    (l15 : K.lookup f15 = some ⟨oc15, od15, .func (PySem.W.fnOf "_law_draw" "_law_draw" (defArgs LX.s_law_draw) (defBody LX.s_law_draw) (defScope LX.s_law_draw) .none kV15 dc15 pm15 an15 cd15 ct15), sl15⟩)
    (c15 : PySem.W.codeIn K cd15 "_law_draw" = true)
    (k15 : PySem.W.keepIn K (.ref f15) = true)
    {f16 : Addr} {od16 an16 : Option Addr} {sl16 : Array (Option Value)} {oc16 kV16 dc16 pm16 cd16 ct16 : Value}
    (a16 : PySem.W.nsIn K mainGlobals "_law_is_line" = some (some (.ref f16)))
    (l16 : K.lookup f16 = some ⟨oc16, od16, .func (PySem.W.fnOf "_law_is_line" "_law_is_line" (defArgs LX.s_law_is_line) (defBody LX.s_law_is_line) (defScope LX.s_law_is_line) .none kV16 dc16 pm16 an16 cd16 ct16), sl16⟩)
    (c16 : PySem.W.codeIn K cd16 "_law_is_line" = true)
    (k16 : PySem.W.keepIn K (.ref f16) = true)
    {f17 : Addr} {od17 an17 : Option Addr} {sl17 : Array (Option Value)} {oc17 kV17 dc17 pm17 cd17 ct17 : Value}
    (a17 : PySem.W.nsIn K mainGlobals "_law_first_wrong" = some (some (.ref f17)))
    (l17 : K.lookup f17 = some ⟨oc17, od17, .func (PySem.W.fnOf "_law_first_wrong" "_law_first_wrong" (defArgs LX.s_law_first_wrong) (defBody LX.s_law_first_wrong) (defScope LX.s_law_first_wrong) .none kV17 dc17 pm17 an17 cd17 ct17), sl17⟩)
    (c17 : PySem.W.codeIn K cd17 "_law_first_wrong" = true)
    (k17 : PySem.W.keepIn K (.ref f17) = true)
    {f18 : Addr} {od18 an18 : Option Addr} {sl18 : Array (Option Value)} {oc18 kV18 dc18 pm18 cd18 ct18 : Value}
    (a18 : PySem.W.nsIn K mainGlobals "_law_answer" = some (some (.ref f18)))
    (l18 : K.lookup f18 = some ⟨oc18, od18, .func (PySem.W.fnOf "_law_answer" "_law_answer" (defArgs LX.s_law_answer) (defBody LX.s_law_answer) (defScope LX.s_law_answer) .none kV18 dc18 pm18 an18 cd18 ct18), sl18⟩)
    (c18 : PySem.W.codeIn K cd18 "_law_answer" = true)
    (k18 : PySem.W.keepIn K (.ref f18) = true)
    {f19 : Addr} {od19 an19 : Option Addr} {sl19 : Array (Option Value)} {oc19 kV19 dc19 pm19 cd19 ct19 : Value}
    (a19 : PySem.W.nsIn K mainGlobals "law" = some (some (.ref f19)))
    (l19 : K.lookup f19 = some ⟨oc19, od19, .func (PySem.W.fnOf "law" "law" (defArgs LX.s_law) (defBody LX.s_law) (defScope LX.s_law) .none kV19 dc19 pm19 an19 cd19 ct19), sl19⟩)
    (c19 : PySem.W.codeIn K cd19 "law" = true)
    (k19 : PySem.W.keepIn K (.ref f19) = true)
    (hTop : (l.prog.main.scope.names.lookup ("super" : Str)).isSome = false)
    (tpX : PySem.W.nsIn K PySem.cStatics "thirdparty.any" = some none)
    (msX : PySem.W.nsIn K mainGlobals "super" = some none)
    {xfInvalidLine xNInvalidLine xccInvalidLine xcdInvalidLine : Addr} {xnmInvalidLine xqInvalidLine : Str} {xbsInvalidLine : List Value} {xsnInvalidLine : List Str} {xsubInvalidLine : List Value} {xabInvalidLine : Bool} {xcolInvalidLine : Option Bool} {xddInvalidLine : Option Addr} {xk0InvalidLine xk1InvalidLine xk2InvalidLine xk3InvalidLine xk5InvalidLine : Option Value}
    {xocInvalidLine xkVInvalidLine xdocInvalidLine xpmInvalidLine xctInvalidLine xo2InvalidLine xo3InvalidLine : Value} {xodInvalidLine xanInvalidLine xd2InvalidLine xd3InvalidLine : Option Addr} {xslInvalidLine xs2InvalidLine xs3InvalidLine : Array (Option Value)} {xvsInvalidLine : Array Value} {xfileInvalidLine : Str} {xtfInvalidLine : Tok}
    (lcInvalidLine : K.lookup kInvalidLine = some (excClassObj xnmInvalidLine xqInvalidLine kInvalidLine xNInvalidLine xbsInvalidLine [.ref kFindError, .type "ValueError", .type "Exception", .type "BaseException", .type "object"] true xsnInvalidLine xsubInvalidLine xabInvalidLine xcolInvalidLine xddInvalidLine xk0InvalidLine xk1InvalidLine xk2InvalidLine xk3InvalidLine xk5InvalidLine "ValueError.__new__"))
    (saInvalidLine : PySem.W.findIn K (.ref kInvalidLine) "__setattr__" = some (some (.builtin "object.__setattr__")))
    (ecInvalidLine : PySem.W.subIn K (.ref kInvalidLine) (.type "BaseException") = some true)
    (tyInvalidLine : PySem.W.typeIn K (.ref kInvalidLine) = some (.type "type"))
    (kcInvalidLine : PySem.W.keepIn K (.ref kInvalidLine) = true)
    (iiInvalidLine : PySem.W.findIn K (.ref kInvalidLine) "__init__" = some (some (.ref xfInvalidLine)))
    (itInvalidLine : PySem.W.typeIn K (.ref xfInvalidLine) = some (.type "function"))
    (lfInvalidLine : K.lookup xfInvalidLine = some ⟨xocInvalidLine, xodInvalidLine, .func (PySem.W.fnX "__init__" "InvalidLine.__init__" (defArgs LX.s_xInvalidLine) (defBody LX.s_xInvalidLine) (defScope LX.s_xInvalidLine) [(("__class__" : Str), xccInvalidLine)] .none xkVInvalidLine xdocInvalidLine xpmInvalidLine xanInvalidLine (.ref xcdInvalidLine) xctInvalidLine), xslInvalidLine⟩)
    (llInvalidLine : K.lookup xccInvalidLine = some ⟨xo2InvalidLine, xd2InvalidLine, .cell (some (.ref kInvalidLine)), xs2InvalidLine⟩)
    (hcInvalidLine : PySem.W.codeIn K (.ref xcdInvalidLine) "InvalidLine.__init__" = true)
    (lkInvalidLine : K.lookup xcdInvalidLine = some ⟨xo3InvalidLine, xd3InvalidLine, .fields xvsInvalidLine, xs3InvalidLine⟩)
    (hvInvalidLine : xvsInvalidLine[2]? = some (.str xfileInvalidLine xtfInvalidLine))
    (hfInvalidLine : ((l.prog.main.file : Str) == xfileInvalidLine) = true)
    (suInvalidLine : PySem.W.ks_superIn K kInvalidLine kInvalidLine "__init__" = some (some (.builtin "ValueError.__init__")))
    (smInvalidLine : PySem.W.mroIn K kInvalidLine (.ref kInvalidLine) = some true)
    (sVInvalidLine : PySem.W.subIn K (.ref kInvalidLine) (.type "ValueError") = some true)
    (nfInvalidLine_line : PySem.W.findIn K (.ref kInvalidLine) "line" = some none)
    (beInvalidLine : PySem.W.subIn K (.ref kInvalidLine) (.type "BaseException") = some true)
    (bdInvalidLine : PySem.W.hasDictIn K kInvalidLine = true)
    (btInvalidLine : PySem.W.typeIn K (.ref kInvalidLine) = some (.type "type"))
    (esInvalidLine_InvalidLine : PySem.W.subIn K (.ref kInvalidLine) (.ref kInvalidLine) = some true)
    (xgInvalidLine : PySem.W.findIn K (.ref kInvalidLine) "__getattribute__" = some (some (.builtin "BaseException.__getattribute__")))
    (xhInvalidLine : PySem.W.findIn K (.ref kInvalidLine) "__getattr__" = some none)
    (beFindError : PySem.W.subIn K (.ref kFindError) (.type "BaseException") = some true)
    (bdFindError : PySem.W.hasDictIn K kFindError = true)
    (btFindError : PySem.W.typeIn K (.ref kFindError) = some (.type "type"))
    (kaInvalidLine : PySem.W.findIn K (.ref kInvalidLine) "__class__" = some (some (.builtin "object.__class__")))
    (kmInvalidLine : PySem.W.mroIn K kInvalidLine (.type "object") = some true)
    (knX : PySem.W.specialIn K (.builtin "object.__class__") "__get__" = some (some (.builtin "getset_descriptor.__get__")))
    (ktX : PySem.W.takesIn K (.builtin "object.__class__") = some true)
    (kqInvalidLine_FindError : PySem.W.subIn K (.ref kInvalidLine) (.ref kFindError) = some true)
    (kkFindError : (PySem.W.clsIn K kFindError).isSome = true)
    (nxInvalidLine_line : PySem.W.findIn K (.ref kInvalidLine) "line" = some none)
    (pgBook : PySem.W.plainGet K kBook Str.empty = true)
    (hdBook : PySem.W.hasDictIn K kBook = true)
    (poBook : PySem.W.plainOver K kBook = true)
    (saBook : PySem.W.findIn K (.ref kBook) "__setattr__" = some (some (.builtin "object.__setattr__")))
    (mkBook : PySem.W.makesIn K kBook = true)
    (kcBook : PySem.W.keepIn K (.ref kBook) = true)
    {cPARTS cPARTS_0 cPARTS_1 cPARTS_2 cPARTS_3 cPARTS_4 cPARTS_5 : Addr} {esPARTS : Array DictEntry} {nPARTS : Nat}
    (g_PARTS : PySem.W.nsIn K mainGlobals "PARTS" = some (some (.ref cPARTS)))
    (ldPARTS : K.lookup cPARTS = some ⟨.type "dict", none, .dict esPARTS nPARTS, #[]⟩)
    (kkPARTS : PySem.W.KeysLit w.params esPARTS.toList)
    (loPARTS : (cPARTS == sysModules) = false)
    (enPARTS : Paired EntIs esPARTS.toList ([(.inr "counts", .ref cPARTS_0), (.inr "evening", .ref cPARTS_1), (.inr "lost", .ref cPARTS_2), (.inr "remembers", .ref cPARTS_3), (.inr "search", .ref cPARTS_4), (.inr "tells", .ref cPARTS_5)] : List (Key × V)))
    {ddPARTS_0 : Option Addr} {itsPARTS_0 : Array Value} {mPARTS_0 : Nat} {slPARTS_0 : Array (Option Value)}
    (ltPARTS_0 : K.lookup cPARTS_0 = some ⟨.type "tuple", ddPARTS_0, .seq itsPARTS_0 mPARTS_0, slPARTS_0⟩)
    (szPARTS_0 : itsPARTS_0.size ≤ sizeLine)
    (vlPARTS_0 : Vals [.str "comes", .str "fits"] itsPARTS_0.toList)
    {ddPARTS_1 : Option Addr} {itsPARTS_1 : Array Value} {mPARTS_1 : Nat} {slPARTS_1 : Array (Option Value)}
    (ltPARTS_1 : K.lookup cPARTS_1 = some ⟨.type "tuple", ddPARTS_1, .seq itsPARTS_1 mPARTS_1, slPARTS_1⟩)
    (szPARTS_1 : itsPARTS_1.size ≤ sizeLine)
    (vlPARTS_1 : Vals [.str "looks", .str "sends"] itsPARTS_1.toList)
    {ddPARTS_2 : Option Addr} {itsPARTS_2 : Array Value} {mPARTS_2 : Nat} {slPARTS_2 : Array (Option Value)}
    (ltPARTS_2 : K.lookup cPARTS_2 = some ⟨.type "tuple", ddPARTS_2, .seq itsPARTS_2 mPARTS_2, slPARTS_2⟩)
    (szPARTS_2 : itsPARTS_2.size ≤ sizeLine)
    (vlPARTS_2 : Vals [.str "again", .str "noted"] itsPARTS_2.toList)
    {ddPARTS_3 : Option Addr} {itsPARTS_3 : Array Value} {mPARTS_3 : Nat} {slPARTS_3 : Array (Option Value)}
    (ltPARTS_3 : K.lookup cPARTS_3 = some ⟨.type "tuple", ddPARTS_3, .seq itsPARTS_3 mPARTS_3, slPARTS_3⟩)
    (szPARTS_3 : itsPARTS_3.size ≤ sizeLine)
    (vlPARTS_3 : Vals [.str "number", .str "price", .str "thing"] itsPARTS_3.toList)
    {ddPARTS_4 : Option Addr} {itsPARTS_4 : Array Value} {mPARTS_4 : Nat} {slPARTS_4 : Array (Option Value)}
    (ltPARTS_4 : K.lookup cPARTS_4 = some ⟨.type "tuple", ddPARTS_4, .seq itsPARTS_4 mPARTS_4, slPARTS_4⟩)
    (szPARTS_4 : itsPARTS_4.size ≤ sizeLine)
    (vlPARTS_4 : Vals [.str "forgets", .str "keeps"] itsPARTS_4.toList)
    {ddPARTS_5 : Option Addr} {itsPARTS_5 : Array Value} {mPARTS_5 : Nat} {slPARTS_5 : Array (Option Value)}
    (ltPARTS_5 : K.lookup cPARTS_5 = some ⟨.type "tuple", ddPARTS_5, .seq itsPARTS_5 mPARTS_5, slPARTS_5⟩)
    (szPARTS_5 : itsPARTS_5.size ≤ sizeLine)
    (vlPARTS_5 : Vals [.str "evening", .str "now"] itsPARTS_5.toList)
    {cPRICES : Addr} {ddPRICES : Option Addr} {itsPRICES : Array Value} {mPRICES : Nat} {slPRICES : Array (Option Value)}
    (ltPRICES : K.lookup cPRICES = some ⟨.type "tuple", ddPRICES, .seq itsPRICES mPRICES, slPRICES⟩)
    (szPRICES : itsPRICES.size ≤ sizeLine)
    (vlPRICES : Vals [.str "2", .str "3"] itsPRICES.toList)
    (g_PRICES : PySem.W.nsIn K mainGlobals "PRICES" = some (some (.ref cPRICES)))
    {cWORDS : Addr} {ddWORDS : Option Addr} {itsWORDS : Array Value} {mWORDS : Nat} {slWORDS : Array (Option Value)}
    (ltWORDS : K.lookup cWORDS = some ⟨.type "tuple", ddWORDS, .seq itsWORDS mWORDS, slWORDS⟩)
    (szWORDS : itsWORDS.size ≤ sizeLine)
    (vlWORDS : Vals [.str "anew", .str "lose", .str "number", .str "pause", .str "price", .str "search"] itsWORDS.toList)
    (g_WORDS : PySem.W.nsIn K mainGlobals "WORDS" = some (some (.ref cWORDS)))
    (n_all : PySem.W.nsIn K mainGlobals "all" = some none)
    (n_bool : PySem.W.nsIn K mainGlobals "bool" = some none)
    (n_dict : PySem.W.nsIn K mainGlobals "dict" = some none)
    (n_int : PySem.W.nsIn K mainGlobals "int" = some none)
    (n_isinstance : PySem.W.nsIn K mainGlobals "isinstance" = some none)
    (n_len : PySem.W.nsIn K mainGlobals "len" = some none)
    (n_list : PySem.W.nsIn K mainGlobals "list" = some none)
    (n_max : PySem.W.nsIn K mainGlobals "max" = some none)
    (n_range : PySem.W.nsIn K mainGlobals "range" = some none)
    (n_str : PySem.W.nsIn K mainGlobals "str" = some none)
    (n_tuple : PySem.W.nsIn K mainGlobals "tuple" = some none)
    (at_Book_highest : PySem.W.findIn K (.ref kBook) "highest" = some none)
    (at_Book_kinds : PySem.W.findIn K (.ref kBook) "kinds" = some none)
    (at_Book_terms : PySem.W.findIn K (.ref kBook) "terms" = some none) :
    ∃ (a : Ad) (fd : FuncData), (∀ (s : Shared) (v : Value), BindsTo s fd ⟨[v], []⟩ [("_law_script", v)]) ∧ ∀ base : Heap, K.In base → base.Ns mainGlobals mg → FnOk l.prog w K mg base (L2.CX l.prog w) 8 fa fd ["_law_script"] (spD K 1 (ct_law a)) := by
  have e := hfa.symm.trans (PySem.W.mg_of X G a19)
  cases e
  have T : Txt l.prog K mg w ⟨kBook, cPARTS, cPARTS_0, cPARTS_1, cPARTS_2, cPARTS_3, cPARTS_4, cPARTS_5, cPRICES, cWORDS, kFindError, kInvalidLine⟩ := {
    g_PARTS := PySem.W.mg_of X G g_PARTS,
    D_PARTS := ⟨⟨esPARTS, nPARTS, ldPARTS, kkPARTS, enPARTS⟩, loPARTS, (by show List.Nodup ([.inr "counts", .inr "evening", .inr "lost", .inr "remembers", .inr "search", .inr "tells"] : List Key); decide +kernel), (by show 6 ≤ sizeLine; decide)⟩,
    l_PARTS := fun _ _ => .cons (.tup (.inr ⟨_, itsPARTS_0, mPARTS_0, ltPARTS_0, rfl, rfl, szPARTS_0, vlPARTS_0⟩) (.cons (.str _) (.cons (.str _) (.nil)))) (.cons (.tup (.inr ⟨_, itsPARTS_1, mPARTS_1, ltPARTS_1, rfl, rfl, szPARTS_1, vlPARTS_1⟩) (.cons (.str _) (.cons (.str _) (.nil)))) (.cons (.tup (.inr ⟨_, itsPARTS_2, mPARTS_2, ltPARTS_2, rfl, rfl, szPARTS_2, vlPARTS_2⟩) (.cons (.str _) (.cons (.str _) (.nil)))) (.cons (.tup (.inr ⟨_, itsPARTS_3, mPARTS_3, ltPARTS_3, rfl, rfl, szPARTS_3, vlPARTS_3⟩) (.cons (.str _) (.cons (.str _) (.cons (.str _) (.nil))))) (.cons (.tup (.inr ⟨_, itsPARTS_4, mPARTS_4, ltPARTS_4, rfl, rfl, szPARTS_4, vlPARTS_4⟩) (.cons (.str _) (.cons (.str _) (.nil)))) (.cons (.tup (.inr ⟨_, itsPARTS_5, mPARTS_5, ltPARTS_5, rfl, rfl, szPARTS_5, vlPARTS_5⟩) (.cons (.str _) (.cons (.str _) (.nil)))) (.nil)))))),
    g_PRICES := PySem.W.mg_of X G g_PRICES,
    i_PRICES := fun _ _ => .tup (.inr ⟨_, itsPRICES, mPRICES, ltPRICES, rfl, rfl, szPRICES, vlPRICES⟩) (.cons (.str _) (.cons (.str _) (.nil))),
    g_WORDS := PySem.W.mg_of X G g_WORDS,
    i_WORDS := fun _ _ => .tup (.inr ⟨_, itsWORDS, mWORDS, ltWORDS, rfl, rfl, szWORDS, vlWORDS⟩) (.cons (.str _) (.cons (.str _) (.cons (.str _) (.cons (.str _) (.cons (.str _) (.cons (.str _) (.nil))))))),
    n_all := PySem.W.mg_none_of X G n_all,
    n_bool := PySem.W.mg_none_of X G n_bool,
    n_dict := PySem.W.mg_none_of X G n_dict,
    n_int := PySem.W.mg_none_of X G n_int,
    n_isinstance := PySem.W.mg_none_of X G n_isinstance,
    n_len := PySem.W.mg_none_of X G n_len,
    n_list := PySem.W.mg_none_of X G n_list,
    n_max := PySem.W.mg_none_of X G n_max,
    n_range := PySem.W.mg_none_of X G n_range,
    n_str := PySem.W.mg_none_of X G n_str,
    n_tuple := PySem.W.mg_none_of X G n_tuple,
    at_Book_highest := ⟨⟨pgBook, hdBook, poBook, saBook⟩, at_Book_highest⟩,
    at_Book_kinds := ⟨⟨pgBook, hdBook, poBook, saBook⟩, at_Book_kinds⟩,
    at_Book_terms := ⟨⟨pgBook, hdBook, poBook, saBook⟩, at_Book_terms⟩,
    df_is_integer := ⟨f0, _, fun_mk (st := s_is_integer) l0 c0 k0, (fun_mk (st := s_is_integer) l0 c0 k0).binds (ps := P_is_integer) fun _ _ _ _ _ _ us hl => match us, hl with | [_, _, _], _ => rfl, PySem.W.mg_of X G a0, k0⟩,
    df_is_word := ⟨f1, _, fun_mk (st := s_is_word) l1 c1 k1, (fun_mk (st := s_is_word) l1 c1 k1).binds (ps := P_is_word) fun _ _ _ _ _ _ us hl => match us, hl with | [_, _], _ => rfl, PySem.W.mg_of X G a1, k1⟩,
    df_check_rule := ⟨f2, _, fun_mk (st := s_check_rule) l2 c2 k2, (fun_mk (st := s_check_rule) l2 c2 k2).binds (ps := P_check_rule) fun _ _ _ _ _ _ us hl => match us, hl with | [_], _ => rfl, PySem.W.mg_of X G a2, k2⟩,
    dc_Book := ⟨f3, _, fun_mk (st := s_Book_init) l3 c3 k3, (fun_mk (st := s_Book_init) l3 c3 k3).binds (ps := P_Book_init) fun _ _ _ _ _ _ us hl => match us, hl with | [_, _, _, _], _ => rfl, PySem.W.mg_of X G gkBook, ⟨mkBook, a3, i3, kcBook⟩⟩,
    df_line_at := ⟨f4, _, fun_mk (st := s_line_at) l4 c4 k4, (fun_mk (st := s_line_at) l4 c4 k4).binds (ps := P_line_at) fun _ _ _ _ _ _ us hl => match us, hl with | [_, _], _ => rfl, PySem.W.mg_of X G a4, k4⟩,
    df_word_at := ⟨f5, _, fun_mk (st := s_word_at) l5 c5 k5, (fun_mk (st := s_word_at) l5 c5 k5).binds (ps := P_word_at) fun _ _ _ _ _ _ us hl => match us, hl with | [_, _, _, _], _ => rfl, PySem.W.mg_of X G a5, k5⟩,
    df_words_at := ⟨f6, _, fun_mk (st := s_words_at) l6 c6 k6, (fun_mk (st := s_words_at) l6 c6 k6).binds (ps := P_words_at) fun _ _ _ _ _ _ us hl => match us, hl with | [_, _], _ => rfl, PySem.W.mg_of X G a6, k6⟩,
    df_read := ⟨f7, _, fun_mk (st := s_read) l7 c7 k7, (fun_mk (st := s_read) l7 c7 k7).binds (ps := P_read) fun _ _ _ _ _ _ us hl => match us, hl with | [_], _ => rfl, PySem.W.mg_of X G a7, k7⟩,
    df__law_mix := ⟨f8, _, fun_mk (st := s_law_mix) l8 c8 k8, (fun_mk (st := s_law_mix) l8 c8 k8).binds (ps := P_law_mix) fun _ _ _ _ _ _ us hl => match us, hl with | [_, _], _ => rfl, PySem.W.mg_of X G a8, k8⟩,
    df__law_next := ⟨f9, _, fun_mk (st := s_law_next) l9 c9 k9, (fun_mk (st := s_law_next) l9 c9 k9).binds (ps := P_law_next) fun _ _ _ _ _ _ us hl => match us, hl with | [_, _], _ => rfl, PySem.W.mg_of X G a9, k9⟩,
    df__law_alike := ⟨f10, _, fun_mk (st := s_law_alike) l10 c10 k10, (fun_mk (st := s_law_alike) l10 c10 k10).binds (ps := P_law_alike) fun _ _ _ _ _ _ us hl => match us, hl with | [_, _], _ => rfl, PySem.W.mg_of X G a10, k10⟩,
    df__law_pick := ⟨f11, _, fun_mk (st := s_law_pick) l11 c11 k11, (fun_mk (st := s_law_pick) l11 c11 k11).binds (ps := P_law_pick) fun _ _ _ _ _ _ us hl => match us, hl with | [_, _], _ => rfl, PySem.W.mg_of X G a11, k11⟩,
    df__law_parts := ⟨f12, _, fun_mk (st := s_law_parts) l12 c12 k12, (fun_mk (st := s_law_parts) l12 c12 k12).binds (ps := P_law_parts) fun _ _ _ _ _ _ us hl => match us, hl with | [], _ => rfl, PySem.W.mg_of X G a12, k12⟩,
    df__law_rule := ⟨f13, _, fun_mk (st := s_law_rule) l13 c13 k13, (fun_mk (st := s_law_rule) l13 c13 k13).binds (ps := P_law_rule) fun _ _ _ _ _ _ us hl => match us, hl with | [_], _ => rfl, PySem.W.mg_of X G a13, k13⟩,
    df__law_words := ⟨f14, _, fun_mk (st := s_law_words) l14 c14 k14, (fun_mk (st := s_law_words) l14 c14 k14).binds (ps := P_law_words) fun _ _ _ _ _ _ us hl => match us, hl with | [_, _], _ => rfl, PySem.W.mg_of X G a14, k14⟩,
    df__law_draw := ⟨f15, _, fun_mk (st := s_law_draw) l15 c15 k15, (fun_mk (st := s_law_draw) l15 c15 k15).binds (ps := P_law_draw) fun _ _ _ _ _ _ us hl => match us, hl with | [_], _ => rfl, PySem.W.mg_of X G a15, k15⟩,
    df__law_is_line := ⟨f16, _, fun_mk (st := s_law_is_line) l16 c16 k16, (fun_mk (st := s_law_is_line) l16 c16 k16).binds (ps := P_law_is_line) fun _ _ _ _ _ _ us hl => match us, hl with | [_, _], _ => rfl, PySem.W.mg_of X G a16, k16⟩,
    df__law_first_wrong := ⟨f17, _, fun_mk (st := s_law_first_wrong) l17 c17 k17, (fun_mk (st := s_law_first_wrong) l17 c17 k17).binds (ps := P_law_first_wrong) fun _ _ _ _ _ _ us hl => match us, hl with | [_], _ => rfl, PySem.W.mg_of X G a17, k17⟩,
    df__law_answer := ⟨f18, _, fun_mk (st := s_law_answer) l18 c18 k18, (fun_mk (st := s_law_answer) l18 c18 k18).binds (ps := P_law_answer) fun _ _ _ _ _ _ us hl => match us, hl with | [_], _ => rfl, PySem.W.mg_of X G a18, k18⟩,
    e_InvalidLine_InvalidLine := PySem.W.exm_ref beInvalidLine bdInvalidLine btInvalidLine esInvalidLine_InvalidLine,
    xs_InvalidLine := ⟨xgInvalidLine, xhInvalidLine, beInvalidLine, bdInvalidLine, kaInvalidLine, knX, ktX, kmInvalidLine⟩,
    ki_InvalidLine_FindError := kit_any kkFindError btFindError kqInvalidLine_FindError,
    gx_FindError := PySem.W.mg_of X G gkFindError,
    gx_InvalidLine := PySem.W.mg_of X G gkInvalidLine,
    x_InvalidLine := xc_one (F := ⟨"__init__", "InvalidLine.__init__", defArgs s_xInvalidLine, defBody s_xInvalidLine, defScope s_xInvalidLine, [(("__class__" : Str), xccInvalidLine)], xcdInvalidLine⟩) ⟨⟨⟨_, _, _, _, _, _, _, _, _, _, _, _, _, _, _, lcInvalidLine, by rfl⟩, saInvalidLine, ecInvalidLine, tyInvalidLine, kcInvalidLine⟩, ⟨_, _, _, _, _, _, _, _, _, lfInvalidLine⟩, ⟨_, rfl, _, _, _, llInvalidLine⟩, hcInvalidLine, ⟨_, _, _, _, _, _, lkInvalidLine, hvInvalidLine, hfInvalidLine⟩, suInvalidLine, tpX, smInvalidLine, sVInvalidLine, hTop, PySem.W.mg_none_of X G msX⟩ (xw_InvalidLine xccInvalidLine xcdInvalidLine) lfInvalidLine rfl rfl (PySem.W.mg_of X G gkInvalidLine) iiInvalidLine itInvalidLine nfInvalidLine_line rfl rfl (by decide) (by decide),
    xf_InvalidLine := ⟨xgInvalidLine, xhInvalidLine, beInvalidLine, bdInvalidLine⟩,
    no_InvalidLine_line := nxInvalidLine_line }
  exact ⟨⟨kBook, cPARTS, cPARTS_0, cPARTS_1, cPARTS_2, cPARTS_3, cPARTS_4, cPARTS_5, cPRICES, cWORDS, kFindError, kInvalidLine⟩, PySem.W.fnOf "law" "law" (defArgs s_law) (defBody s_law) (defScope s_law) .none kV19 dc19 pm19 an19 cd19 ct19, fun s v => .of_eq rfl, fun base _ _ => law_fn T (fun_mk (st := s_law) l19 c19 k19)⟩
end LX

namespace LX
open PySem L2 DL
/-- a source of draws -/
structure Src where
  st : Int
  ix : Int
  cells : List Int
  hc : cells.length ≤ 63
def src (s : Src) : List Ob := [.lst (s.cells.map D.int), .lst [.int s.st, .loc 0, .int s.ix]]
def Src.m (s : Src) : Int := if (1 : Int) < (s.cells.length : Int) then (s.cells.length : Int) else 1
def Src.i (s : Src) : Nat := (s.ix % s.m).toNat
def Src.cell (s : Src) : Int := (s.cells ++ [0]).getD s.i 0
def Src.next (s : Src) (cap : Int) : Int × Src :=
  if (1000000000000000000 : Int) ≤ s.cell then (s.cell % cap, ⟨s.st, s.ix, s.cells.set s.i (s.cell / cap), by rw [List.length_set]; exact s.hc⟩)
  else ((s.st * 48271 + s.cell * 69621 + 11) % 2147483647 / 7 % cap, ⟨(s.st * 48271 + s.cell * 69621 + 11) % 2147483647, s.ix + 1, s.cells, s.hc⟩)
theorem next_rng (s : Src) {cap : Int} (h : 0 < cap) : 0 ≤ (s.next cap).1 ∧ (s.next cap).1 < cap := by
  unfold Src.next
  split
  · exact ⟨Int.emod_nonneg _ (by omega), Int.emod_lt_of_pos _ h⟩
  · exact ⟨Int.emod_nonneg _ (by omega), Int.emod_lt_of_pos _ h⟩
theorem sc_ints {n : Nat} : ∀ xs : List Int, scL n (xs.map D.int) = true
  | [] => by simp [scL]
  | x :: xs => by rw [List.map_cons, scL, sc_ints xs]; simp [D.sc]
theorem old_src (s s' : Src) (j : List Ob) : Old (src s ++ j) (src s' ++ j) := by
  refine ⟨by simp [src], fun k o hk e => ?_⟩
  match k, e with
  | 0, e =>
    simp [src] at e
    subst e
    exact .inr (sc_ints _)
  | 1, e =>
    simp [src] at e
    subst e
    right
    simp [Ob.sc, scL, D.sc, src]
  | k + 2, e => exact .inl (by simpa [src] using e)
theorem p18 : (10 : Int) ^ (18 : Nat) = 1000000000000000000 := by decide +kernel
theorem next_ok (a : Ad) (s : Src) (j : List Ob) (cap : Int) (h0 : 0 < cap) (h1 : cap < 1073741824) : ct__law_next a [.loc 1, .int cap] (src s ++ j) = .ok (.int (s.next cap).1) (src (s.next cap).2 ++ j) := by
  refine ctT_rt (j := []) ?_ (old_src _ _ _) (by simp [D.sc])
  rw [List.append_nil]
  have hl : s.cells.length ≤ 16777215 := by have := s.hc; omega
  have hm : (if (1 : Int) < (s.cells.length : Int) then (s.cells.length : Int) else 1) = s.m := rfl
  have m0 : 0 < s.m := by unfold Src.m; split <;> omega
  have m1 : s.m ≤ s.cells.length + 1 := by unfold Src.m; split <;> omega
  have m2 : 0 < s.cells.length → s.m = s.cells.length := fun h => by unfold Src.m; split <;> omega
  have j0 := Int.emod_nonneg s.ix (Int.ne_of_gt m0)
  have j1 := Int.emod_lt_of_pos s.ix m0
  have hi : (s.i : Int) = s.ix % s.m := by unfold Src.i; omega
  have hcell : atI (List.map D.int s.cells ++ [D.int 0]) (s.ix % s.m) = some (.int s.cell) := by
    obtain ⟨x, h1, h2⟩ := atI_in (xs := List.map D.int s.cells ++ [D.int 0]) (i := s.ix % s.m) j0 (by simp; omega)
    rw [h1, ← h2]
    have e : List.map D.int s.cells ++ [D.int 0] = (s.cells ++ [0]).map D.int := by simp
    rw [e, List.getElem?_map]
    unfold Src.cell
    rw [List.getD_eq_getElem?_getD]
    have hlt : s.i < (s.cells ++ [0]).length := by simp; omega
    show Option.map D.int (s.cells ++ [0])[s.i]? = _
    rw [List.getElem?_eq_getElem hlt]
    rfl
  have hbig : 1000000000000000000 ≤ s.cell → 0 < s.cells.length := fun h => by
    rcases Nat.eq_zero_or_pos s.cells.length with z | z
    · have z' : s.cells = [] := List.length_eq_zero_iff.mp z
      unfold Src.cell at h
      rw [z'] at h
      have : ∀ k : Nat, ([0] : List Int).getD k 0 = 0 := fun k => by cases k <;> simp
      have e : ([] ++ [0] : List Int).getD s.i 0 = 0 := this _
      rw [e] at h
      omega
    · exact z
  by_cases hb : (1000000000000000000 : Int) ≤ s.cell
  · have hp := hbig hb
    have hm2 := m2 hp
    have hix : ixN s.cells.length (s.ix % (s.cells.length : Int)) = some s.i := by
      rw [← hm2]
      have := ixN_in (n := s.cells.length) (i := s.ix % s.m) j0 (by rw [← hm2]; exact j1)
      exact this
    have hpi : (0 : Int) < (s.cells.length : Int) := by omega
    have en : s.next cap = (s.cell % cap, ⟨s.st, s.ix, s.cells.set s.i (s.cell / cap), by rw [List.length_set]; exact s.hc⟩) := by unfold Src.next; rw [if_pos hb]
    rw [en]
    unfold r_law_next src
    simp [hl, hm, m0, hcell, hb, hp, h0, h1, storeD, hix]
  · have en : s.next cap = ((s.st * 48271 + s.cell * 69621 + 11) % 2147483647 / 7 % cap, ⟨(s.st * 48271 + s.cell * 69621 + 11) % 2147483647, s.ix + 1, s.cells, s.hc⟩) := by unfold Src.next; rw [if_neg hb]
    rw [en]
    have i0 : ixN 3 0 = some 0 := rfl
    have i2 : ixN 3 2 = some 2 := rfl
    unfold r_law_next src
    simp [hl, hm, m0, hcell, hb, h0, h1, storeD, i0, i2]
end LX

namespace LX
open PySem L2 DL
theorem mix_ok (a : Ad) (ns : List Int) (h : ns.length ≤ 63) (seed : Int) : ∃ s : Src, ct__law_mix a [.frl (ns.map D.int), .int seed] [] = .ok (.loc 1) (src s) := by
  have e := (for_t (t := .nm 3) (body := rSet 2 (rBin modD (rCB intD (rCons (rBin addD (rBin addD (rBin mulD (rVar 2) (rC (.int 48271))) (rBin modD (rCB intD (rCons (rVar 3) rNil)) (rC (.int 2147483629)))) (rC (.int 1))) rNil)) (rC (.int 2147483647))))
    (S := fun s : Int × Option D => [some (.frl (ns.map D.int)), some (.int seed), some (.int s.1), s.2]) (M := fun _ => []) (enc := D.int) (step := fun s x => ((s.1 * 48271 + x % 2147483629 + 1) % 2147483647, some (.int x))) (fun _ => True) ns (seed, none) trivial
    fun s x _ _ => ⟨trivial, _, rfl, by simp⟩).2
  generalize ns.foldl (fun (s : Int × Option D) x => ((s.1 * 48271 + x % 2147483629 + 1) % 2147483647, some (D.int x))) (seed, none) = z at e
  obtain ⟨st, o⟩ := z
  refine ⟨⟨st, 0, ns, h⟩, ?_⟩
  unfold ct__law_mix ctOf r_law_mix
  dsimp only at e
  simp [e, itemsD, src]
/-- one of some things -/
def Src.pick (s : Src) (xs : List D) : D × Src := (xs.getD (s.next xs.length).1.toNat .non, (s.next xs.length).2)
theorem scL_get {n : Nat} : ∀ {xs : List D} {k : Nat} {d : D}, scL n xs = true → xs[k]? = some d → d.sc n = true
  | x :: xs, 0, d, h, e => by
    simp at e
    subst e
    rw [scL, Bool.and_eq_true] at h
    exact h.1
  | x :: xs, k + 1, d, h, e => by
    rw [scL, Bool.and_eq_true] at h
    exact scL_get h.2 (by simpa using e)
  | [], k, d, h, e => by simp at e
theorem pick_ok (a : Ad) (s : Src) (j : List Ob) (xs : List D) (h0 : 0 < xs.length) (h1 : xs.length < 1073741824) (hs : scL 0 xs = true) : ct__law_pick a [.loc 1, .lst xs] (src s ++ j) = .ok (s.pick xs).1 (src (s.pick xs).2 ++ j) := by
  have hn := next_ok a s j xs.length (by omega) (by omega)
  obtain ⟨r0, r1⟩ := next_rng s (cap := xs.length) (by omega)
  obtain ⟨x, e1, e2⟩ := atI_in (xs := xs) r0 r1
  have e3 : (s.pick xs).1 = x := by
    unfold Src.pick
    rw [List.getD_eq_getElem?_getD, e2]
    rfl
  refine ctT_rt (j := []) ?_ (old_src _ _ _) (by rw [e3]; exact sc_le (Nat.zero_le _) _ (scL_get hs e2))
  rw [e3]
  unfold r_law_pick
  simp [hn, e1, Src.pick]
def row (p : Str × List Str) : D := .lst (.str p.1 :: p.2.map D.str)
def PWs : List (Str × List Str) := [("counts", ["comes", "fits"]), ("evening", ["looks", "sends"]), ("lost", ["again", "noted"]), ("remembers", ["number", "price", "thing"]), ("search", ["forgets", "keeps"]), ("tells", ["evening", "now"])]
theorem parts_ok (a : Ad) (μ : List Ob) : ct__law_parts a [] μ = .ok (.lst (PWs.map row)) μ := by
  refine pu_rt ⟨[.lst [row ("counts", ["comes", "fits"]), row ("evening", ["looks", "sends"]), row ("lost", ["again", "noted"]), row ("remembers", ["number", "price", "thing"])]], ?_⟩ (by decide)
  unfold r_law_parts
  simp [apD, isLst, row, PWs]
end LX

namespace LX
open PySem L2 DL
noncomputable section
/-- a word drawn of some -/
def Src.wd (s : Src) (ws : List Str) : Str × Src := (ws.getD (s.next ws.length).1.toNat "", (s.next ws.length).2)
theorem wd_mem (s : Src) {ws : List Str} (h : 0 < ws.length) : (s.wd ws).1 ∈ ws := by
  obtain ⟨r0, r1⟩ := next_rng s (cap := ws.length) (by omega)
  unfold Src.wd
  rw [List.getD_eq_getElem?_getD]
  have hl : (s.next ws.length).1.toNat < ws.length := by omega
  rw [List.getElem?_eq_getElem hl]
  exact List.getElem_mem hl
theorem pick_wd (s : Src) {ws : List Str} (h : 0 < ws.length) : s.pick (ws.map D.str) = (.str (s.wd ws).1, (s.wd ws).2) := by
  obtain ⟨r0, r1⟩ := next_rng s (cap := ws.length) (by omega)
  unfold Src.pick Src.wd
  have hl : (s.next ws.length).1.toNat < ws.length := by omega
  simp [List.getD_eq_getElem?_getD, List.getElem?_eq_getElem hl]
theorem sc_strs {n : Nat} : ∀ xs : List Str, scL n (xs.map D.str) = true
  | [] => by simp [scL]
  | x :: xs => by rw [List.map_cons, scL, sc_strs xs]; simp [D.sc]
theorem wd_ok (a : Ad) (s : Src) (j : List Ob) (ws : List Str) (h0 : 0 < ws.length) (h1 : ws.length < 1073741824) : ct__law_pick a [.loc 1, .lst (ws.map D.str)] (src s ++ j) = .ok (.str (s.wd ws).1) (src (s.wd ws).2 ++ j) := by
  have := pick_ok a s j (ws.map D.str) (by simpa using h0) (by simpa using h1) (sc_strs ws)
  rw [this, pick_wd s h0]
/-- a rule: one word of each part -/
structure Rl where
  (c e l m s t : Str)
structure RlOk (r : Rl) : Prop where
  c : r.c ∈ (["comes", "fits"] : List Str)
  e : r.e ∈ (["looks", "sends"] : List Str)
  l : r.l ∈ (["again", "noted"] : List Str)
  m : r.m ∈ (["number", "price", "thing"] : List Str)
  s : r.s ∈ (["forgets", "keeps"] : List Str)
  t : r.t ∈ (["evening", "now"] : List Str)
def K6 : List Key := [.inr "counts", .inr "evening", .inr "lost", .inr "remembers", .inr "search", .inr "tells"]
def ruleD (r : Rl) : D := .dct K6 [.str r.c, .str r.e, .str r.l, .str r.m, .str r.s, .str r.t]
theorem cutL_1 {β : Type} {x : β} {xs : List β} : cutL (x :: xs) (some 1) none = xs := by
  have h1 : HT.sIx (x :: xs).length 0 (some 1) = 1 := by
    show (if (1 : Int) < 0 then ((1 : Int) + ((x :: xs).length : Int)).toNat else min (1 : Int).toNat (x :: xs).length) = 1
    rw [if_neg (by decide)]
    show min 1 (xs.length + 1) = 1
    omega
  have h2 : HT.sIx (x :: xs).length (x :: xs).length none = (x :: xs).length := rfl
  unfold cutL
  rw [h1, h2]
  simp
theorem src_l (s : Src) : (src s).length = 2 := rfl
theorem src_len (s : Src) (j : List Ob) : (src s ++ j).length = 2 + j.length := by rw [List.length_append, src_l]
/-- the store behind a source: one thing more -/
theorem at_src (s : Src) (j : List Ob) (o : Ob) : (src s ++ (j ++ [o]))[2 + j.length]? = some o := by
  have : src s ++ (j ++ [o]) = (src s ++ j) ++ [o] := by rw [List.append_assoc]
  rw [this, ← src_len s j, List.getElem?_concat_length]
theorem set_src (s : Src) (j : List Ob) (o o' : Ob) : (src s ++ (j ++ [o])).set (2 + j.length) o' = src s ++ (j ++ [o']) := by
  rw [List.set_append_right _ _ (by rw [src_l]; omega), src_l, List.set_append_right _ _ (by omega)]
  have : 2 + j.length - 2 - j.length = 0 := by omega
  rw [this]
  rfl
abbrev bRule (a : Ad) : RS := rAsgD (gSt (rVar 1) (rBin getD (rVar 2) (rC (.int 0)))) (rCall 2 (ct__law_pick a) (rCons (rVar 0) (rCons (rSlice (rVar 2) (rSome (rC (.int 1))) rNone) rNil)))
theorem rule_turn (a : Ad) (s : Src) (j : List Ob) (ks : List Key) (xs : List D) (p : Str × List Str) (hl : ks.length < 1000) (h0 : 0 < p.2.length) (h1 : p.2.length < 1000) :
    bRule a [some (.loc 1), some (.loc (2 + j.length)), some (row p)] (src s ++ (j ++ [.dct ks xs])) = .nx [some (.loc 1), some (.loc (2 + j.length)), some (row p)] (src (s.wd p.2).2 ++ (j ++ [.dct (putKs ks (.inr p.1)) (putXs ks xs (.inr p.1) (.str (s.wd p.2).1))])) := by
  have e1 := wd_ok a s (j ++ [.dct ks xs]) p.2 h0 (by omega)
  have hk : ks.length < 16777216 := by omega
  unfold row
  simp [cutL_1, e1, storeD, D.key, hk, at_src, set_src]
theorem rule_row (a : Ad) (s : Src) (j : List Ob) (ks : List Key) (xs : List D) (p : Str × List Str) (ds : List D) (o : Option D) (hl : ks.length < 1000) (h0 : 0 < p.2.length) (h1 : p.2.length < 1000) :
    ∃ w s', w ∈ p.2 ∧ forL (.nm 2) (bRule a) (row p :: ds) [some (.loc 1), some (.loc (2 + j.length)), o] (src s ++ (j ++ [.dct ks xs])) = forL (.nm 2) (bRule a) ds [some (.loc 1), some (.loc (2 + j.length)), some (row p)] (src s' ++ (j ++ [.dct (putKs ks (.inr p.1)) (putXs ks xs (.inr p.1) (.str w))])) := by
  have e := rule_turn a s j ks xs p hl h0 h1
  refine ⟨(s.wd p.2).1, (s.wd p.2).2, wd_mem s h0, ?_⟩
  rw [forL]
  show (match bRule a [some (.loc 1), some (.loc (2 + j.length)), some (row p)] (src s ++ (j ++ [.dct ks xs])) with
    | .nx δ2 μ2 => forL (.nm 2) (bRule a) ds δ2 μ2
    | .ct δ2 μ2 => forL (.nm 2) (bRule a) ds δ2 μ2
    | .bk δ2 μ2 => .nx δ2 μ2
    | r => r) = _
  rw [e]
theorem hk1 : hasK [] (.inr "counts") = false := by decide +kernel
theorem hk2 : hasK [.inr "counts"] (.inr "evening") = false := by decide +kernel
theorem hk3 : hasK [.inr "counts", .inr "evening"] (.inr "lost") = false := by decide +kernel
theorem hk4 : hasK [.inr "counts", .inr "evening", .inr "lost"] (.inr "remembers") = false := by decide +kernel
theorem hk5 : hasK [.inr "counts", .inr "evening", .inr "lost", .inr "remembers"] (.inr "search") = false := by decide +kernel
theorem hk6 : hasK [.inr "counts", .inr "evening", .inr "lost", .inr "remembers", .inr "search"] (.inr "tells") = false := by decide +kernel
theorem hk7 : hasK K6 (.inr "tells") = true := by decide +kernel
theorem putT (r : Rl) (x : Str) : putKs K6 (.inr "tells") = K6 ∧ putXs K6 [.str r.c, .str r.e, .str r.l, .str r.m, .str r.s, .str r.t] (.inr "tells") (.str x) = [.str r.c, .str r.e, .str r.l, .str r.m, .str r.s, .str x] := by
  have n1 : ¬ ((.inr "counts" : Key) = .inr "tells") := by decide +kernel
  have n2 : ¬ ((.inr "evening" : Key) = .inr "tells") := by decide +kernel
  have n3 : ¬ ((.inr "lost" : Key) = .inr "tells") := by decide +kernel
  have n4 : ¬ ((.inr "remembers" : Key) = .inr "tells") := by decide +kernel
  have n5 : ¬ ((.inr "search" : Key) = .inr "tells") := by decide +kernel
  unfold putKs putXs
  rw [if_pos hk7, if_pos hk7]
  refine ⟨rfl, ?_⟩
  unfold K6
  simp only [List.zipWith, if_neg n1, if_neg n2, if_neg n3, if_neg n4, if_neg n5, if_true]
theorem rule_loop (a : Ad) (s : Src) (j : List Ob) (o : Option D) : ∃ r s' o', RlOk r ∧ forL (.nm 2) (bRule a) (PWs.map row) [some (.loc 1), some (.loc (2 + j.length)), o] (src s ++ (j ++ [.dct [] []])) = .nx [some (.loc 1), some (.loc (2 + j.length)), o']
    (src s' ++ (j ++ [.dct K6 [.str r.c, .str r.e, .str r.l, .str r.m, .str r.s, .str r.t]])) := by
  unfold PWs
  simp only [List.map_cons, List.map_nil]
  obtain ⟨w1, s1, m1, e1⟩ := rule_row a s j [] [] ("counts", ["comes", "fits"]) [row ("evening", ["looks", "sends"]), row ("lost", ["again", "noted"]), row ("remembers", ["number", "price", "thing"]), row ("search", ["forgets", "keeps"]), row ("tells", ["evening", "now"])] o (by decide) (by simp) (by simp)
  simp only [putKs, putXs, hk1, Bool.false_eq_true, if_false, List.nil_append, List.cons_append] at e1
  obtain ⟨w2, s2, m2, e2⟩ := rule_row a s1 j [.inr "counts"] [.str w1] ("evening", ["looks", "sends"]) [row ("lost", ["again", "noted"]), row ("remembers", ["number", "price", "thing"]), row ("search", ["forgets", "keeps"]), row ("tells", ["evening", "now"])] (some (row ("counts", ["comes", "fits"]))) (by simp) (by simp) (by simp)
  simp only [putKs, putXs, hk2, Bool.false_eq_true, if_false, List.nil_append, List.cons_append] at e2
  obtain ⟨w3, s3, m3, e3⟩ := rule_row a s2 j [.inr "counts", .inr "evening"] [.str w1, .str w2] ("lost", ["again", "noted"]) [row ("remembers", ["number", "price", "thing"]), row ("search", ["forgets", "keeps"]), row ("tells", ["evening", "now"])] (some (row ("evening", ["looks", "sends"]))) (by simp) (by simp) (by simp)
  simp only [putKs, putXs, hk3, Bool.false_eq_true, if_false, List.nil_append, List.cons_append] at e3
  obtain ⟨w4, s4, m4, e4⟩ := rule_row a s3 j [.inr "counts", .inr "evening", .inr "lost"] [.str w1, .str w2, .str w3] ("remembers", ["number", "price", "thing"]) [row ("search", ["forgets", "keeps"]), row ("tells", ["evening", "now"])] (some (row ("lost", ["again", "noted"]))) (by simp) (by simp) (by simp)
  simp only [putKs, putXs, hk4, Bool.false_eq_true, if_false, List.nil_append, List.cons_append] at e4
  obtain ⟨w5, s5, m5, e5⟩ := rule_row a s4 j [.inr "counts", .inr "evening", .inr "lost", .inr "remembers"] [.str w1, .str w2, .str w3, .str w4] ("search", ["forgets", "keeps"]) [row ("tells", ["evening", "now"])] (some (row ("remembers", ["number", "price", "thing"]))) (by simp) (by simp) (by simp)
  simp only [putKs, putXs, hk5, Bool.false_eq_true, if_false, List.nil_append, List.cons_append] at e5
  obtain ⟨w6, s6, m6, e6⟩ := rule_row a s5 j [.inr "counts", .inr "evening", .inr "lost", .inr "remembers", .inr "search"] [.str w1, .str w2, .str w3, .str w4, .str w5] ("tells", ["evening", "now"]) [] (some (row ("search", ["forgets", "keeps"]))) (by simp) (by simp) (by simp)
  simp only [putKs, putXs, hk6, Bool.false_eq_true, if_false, List.nil_append, List.cons_append] at e6
  refine ⟨⟨w1, w2, w3, w4, w5, w6⟩, s6, some (row ("tells", ["evening", "now"])), ⟨m1, m2, m3, m4, m5, m6⟩, ?_⟩
  rw [e1, e2, e3, e4, e5, e6]
  rfl
theorem rule_ok (a : Ad) (s : Src) (j : List Ob) : ∃ r s', RlOk r ∧ ct__law_rule a [.loc 1] (src s ++ j) = .ok (ruleD r) (src s' ++ j) := by
  obtain ⟨r, s1, o, hr, lp⟩ := rule_loop a s j none
  have hn := next_ok a s1 (j ++ [.dct K6 [.str r.c, .str r.e, .str r.l, .str r.m, .str r.s, .str r.t]]) 2 (by decide) (by decide)
  have pt := putT r "evening"
  have hk : K6.length = 6 := rfl
  by_cases h0 : (s1.next 2).1 = 0
  · have hb : ((s1.next 2).1 == 0) = true := by rw [h0]; rfl
    refine ⟨{ r with t := "evening" }, (s1.next 2).2, ⟨hr.c, hr.e, hr.l, hr.m, hr.s, by simp⟩, ctT_rt (j := [.dead]) ?_ (old_src _ _ _) (by simp [D.sc, ruleD, scL])⟩
    unfold r_law_rule
    simp [-getElem?_pos, -List.getElem?_eq_getElem, List.getElem?_cons_zero, List.getElem?_cons_succ, hb, parts_ok, noX, itemsD, src_l, lp, hn, h0, eqD, D.okd, D.eqb, storeD, D.key, hk, pt, at_src, set_src, ruleD]
  · have hb : ((s1.next 2).1 == 0) = false := by simpa using h0
    refine ⟨r, (s1.next 2).2, hr, ctT_rt (j := [.dead]) ?_ (old_src _ _ _) (by simp [D.sc, ruleD, scL])⟩
    unfold r_law_rule
    simp [-getElem?_pos, -List.getElem?_eq_getElem, List.getElem?_cons_zero, List.getElem?_cons_succ, hb, parts_ok, noX, itemsD, src_l, lp, hn, h0, eqD, D.okd, D.eqb, storeD, D.key, hk, pt, at_src, set_src, ruleD]
end
end LX

namespace LX
open PySem L2 DL
noncomputable section
def W6 : List Str := ["anew", "lose", "number", "pause", "price", "search"]
theorem okd_strs : ∀ (n : Nat) (ws : List Str), (∀ x ∈ ws, PyData.strOk x = true) → okdL n (ws.map D.str) = true
  | n, [], _ => by simp [okdL]
  | n, x :: ws, h => by
    rw [List.map_cons, okdL, Bool.and_eq_true]
    refine ⟨?_, okd_strs n ws fun y hy => h y (List.mem_cons_of_mem _ hy)⟩
    rw [D.okd]
    exact h x List.mem_cons_self
theorem w6_ok : ∀ x ∈ W6, PyData.strOk x = true := by decide +kernel
theorem any_str (ws : List Str) (w : Str) : ((ws.map D.str).any fun z => z.eqb (.str w)) = decide (w ∈ ws) := by
  induction ws with
  | nil => simp
  | cons x ws ih =>
    rw [List.map_cons, List.any_cons, ih, D.eqb, Bool.eq_iff_iff, Bool.or_eq_true, beq_iff_eq, decide_eq_true_iff, decide_eq_true_iff, List.mem_cons]
    exact ⟨fun h => h.elim (fun e => .inl e.symm) .inr, fun h => h.elim (fun e => .inl e.symm) .inr⟩
theorem in_strs {neg : Bool} {w : Str} {ws : List Str} {μ : List Ob} (h : PyData.strOk w = true) (hs : ∀ x ∈ ws, PyData.strOk x = true) : inD neg (.str w) (.lst (ws.map D.str)) μ = .ok (.bl (if neg then !decide (w ∈ ws) else decide (w ∈ ws))) μ := by
  rw [inD_lst, if_pos (by rw [D.okd, h, okd_strs 60 ws hs]; rfl), any_str]
theorem in_strsT {neg : Bool} {w : Str} {ws : List Str} {μ : List Ob} (h : PyData.strOk w = true) (hs : ∀ x ∈ ws, PyData.strOk x = true) : inD neg (.str w) (.tup (ws.map D.str)) μ = .ok (.bl (if neg then !decide (w ∈ ws) else decide (w ∈ ws))) μ := by
  rw [inD_tup, if_pos (by rw [D.okd, h, okd_strs 60 ws hs]; rfl), any_str]
/-- some of the words, in their order -/
def wordsL (p : Str → Bool) : List Str := W6.filter p
def wordsD (p : Str → Bool) : D := .tup ((wordsL p).map D.str)
theorem picks (s : Src) (ks : List Nat) : ∃ fs : List Str, (∀ w ∈ fs, w ∈ W6) ∧ (ks.foldl (fun (p : List D × Src) _ => (p.1 ++ [D.str (p.2.wd W6).1], (p.2.wd W6).2)) ([], s)).1 = fs.map D.str := by
  have key : ∀ (ks : List Nat) (s : Src) (l : List Str), (∀ w ∈ l, w ∈ W6) → ∃ fs : List Str, (∀ w ∈ fs, w ∈ W6) ∧ (ks.foldl (fun (p : List D × Src) _ => (p.1 ++ [D.str (p.2.wd W6).1], (p.2.wd W6).2)) (l.map D.str, s)).1 = fs.map D.str := by
    intro ks
    induction ks with
    | nil => intro s l hl; exact ⟨l, hl, rfl⟩
    | cons k ks ih =>
      intro s l hl
      have := ih (s.wd W6).2 (l ++ [(s.wd W6).1]) fun w hw => by
        rcases List.mem_append.mp hw with h | h
        · exact hl w h
        · rw [List.mem_singleton.mp h]; exact wd_mem s (by decide)
      rw [List.foldl_cons]
      simpa using this
  exact key ks s [] fun w hw => by cases hw
theorem words_ok (a : Ad) (s : Src) (j : List Ob) (many : Int) (m0 : 0 ≤ many) (m1 : many < 1000) : ∃ p s', ct__law_words a [.loc 1, .int many] (src s ++ j) = .ok (wordsD p) (src s' ++ j) := by
  have e1 := next_ok a s j (many + 1) (by omega) (by omega)
  obtain ⟨v0, v1⟩ := next_rng s (cap := many + 1) (by omega)
  obtain ⟨fs, hf, ef⟩ := picks (s.next (many + 1)).2 (List.range (s.next (many + 1)).1.toNat)
  have e2 := comp_s (t := .nm 4) (vs := [4]) (ft := rYes) (fe := rCall 2 (ct__law_pick a) (rCons (rVar 0) (rCons (rVar 2) rNil))) (δ := [some (.loc 1), some (.int many), some (.lst (W6.map D.str)), none, none, none]) (M := fun s => src s ++ j) (enc := fun k : Nat => D.int (k : Int)) (f := fun s _ => D.str (s.wd W6).1) (g := fun s _ => (s.wd W6).2) (fun _ _ => rfl) (List.range (s.next (many + 1)).1.toNat) (s.next (many + 1)).2 [] (by simp; omega) fun s x => by
    have := wd_ok a s j W6 (by decide) (by decide)
    refine ⟨_, rfl, ?_⟩
    simp [wipeD, this]
  rw [List.nil_append, ef] at e2
  generalize (List.range (s.next (many + 1)).1.toNat).foldl (fun (p : List D × Src) _ => (p.1 ++ [D.str (p.2.wd W6).1], (p.2.wd W6).2)) ([], (s.next (many + 1)).2) = z at e2
  have hfs : ∀ x ∈ fs, PyData.strOk x = true := fun x hx => w6_ok x (hf x hx)
  have e3 := comp_t (t := .nm 5) (vs := [5]) (ft := rT (rBin (inD false) (rVar 5) (rVar 3))) (fe := rVar 5) (δ := [some (.loc 1), some (.int many), some (.lst (W6.map D.str)), some (.lst (fs.map D.str)), none, none]) (μ := src z.2 ++ j) D.str (fun w => decide (w ∈ fs)) D.str W6 [] (by decide) (fun w hw => by
    refine ⟨_, rfl, ?_, fun _ => rfl⟩
    have := in_strs (neg := false) (μ := src z.2 ++ j) (w6_ok w hw) hfs
    rw [s_rT, s_rBin]
    show (DL.R.bind (DL.R.bind (DL.R.ok (D.str w) _) fun d μ1 => DL.R.bind (DL.R.ok (D.lst (fs.map D.str)) μ1) fun e μ2 => inD false d e μ2) fun d μ1 => match d with
      | .bl b => .ok b μ1
      | _ => .bad) = _
    simp only [R.ok_bind, this]
    rfl)
  rw [List.nil_append] at e3
  refine ⟨fun w => decide (w ∈ fs), z.2, ctT_rt (j := []) ?_ (old_src _ _ _) (by rw [wordsD, D.sc]; exact sc_strs _)⟩
  have v62 : (s.next (many + 1)).1 < 4611686018427387904 := by omega
  have v63 : -4611686018427387904 ≤ (s.next (many + 1)).1 := by omega
  unfold W6 at e2 e3
  simp only [List.map_cons, List.map_nil] at e2 e3
  unfold r_law_words
  rw [List.append_nil]
  simp [e1, v62, v63, e2, e3, itemsD, wordsD, wordsL, W6, upTo_z]
theorem draw_ok (a : Ad) (s : Src) (j : List Ob) : ∃ r p s', RlOk r ∧ ct__law_draw a [.loc 1] (src s ++ j) = .ok (.lst [.int 2, ruleD r, wordsD p]) (src s' ++ j) := by
  obtain ⟨r, s1, hr, e1⟩ := rule_ok a s j
  obtain ⟨p, s2, e2⟩ := words_ok a s1 j 3 (by decide) (by decide)
  refine ⟨r, p, s2, hr, ctT_rt (j := []) ?_ (old_src _ _ _) ?_⟩
  · unfold r_law_draw
    rw [List.append_nil]
    simp [e1, e2]
  · simp [D.sc, scL, ruleD, wordsD, sc_strs]
end
end LX

namespace LX
open PySem L2 DL
noncomputable section
theorem kb_int : kitB "int" "int" = some true := by decide +kernel
theorem kb_ib : kitB "int" "bool" = some false := by decide +kernel
theorem kb_str : kitB "str" "str" = some true := by decide +kernel
theorem kb_dct : kitB "dict" "dict" = some true := by decide +kernel
theorem kb_tup : kitB "tuple" "tuple" = some true := by decide +kernel
theorem eq_strs {x y : Str} {μ : List Ob} (h : PyData.strOk x = true) (h' : PyData.strOk y = true) : eqD (.str x) (.str y) μ = .ok (.bl (decide (x = y))) μ := by
  unfold eqD
  have e1 : (D.str x).okd 60 = true := by rw [D.okd]; exact h
  have e2 : (D.str y).okd 60 = true := by rw [D.okd]; exact h'
  simp only [vw_str, e1, e2, Bool.and_self, if_true]
  rw [D.eqb]
  congr 2
theorem ne_strs {x y : Str} {μ : List Ob} (h : PyData.strOk x = true) (h' : PyData.strOk y = true) : neD (.str x) (.str y) μ = .ok (.bl (!decide (x = y))) μ := by
  unfold neD
  have e1 : (D.str x).okd 60 = true := by rw [D.okd]; exact h
  have e2 : (D.str y).okd 60 = true := by rw [D.okd]; exact h'
  simp only [vw_str, e1, e2, Bool.and_self, if_true]
  rw [D.eqb]
  congr 2
theorem eqbL_strs : ∀ xs ys : List Str, eqbL (xs.map D.str) (ys.map D.str) = decide (xs = ys)
  | [], [] => by simp [eqbL]
  | [], y :: ys => by simp [eqbL]
  | x :: xs, [] => by simp [eqbL]
  | x :: xs, y :: ys => by
    rw [List.map_cons, List.map_cons, eqbL, eqbL_strs xs ys, D.eqb, Bool.eq_iff_iff]
    simp
def lst (ws : List Str) : D := .lst (ws.map D.str)
theorem eq_lsts {xs ys : List Str} {μ : List Ob} (h : ∀ x ∈ xs, PyData.strOk x = true) (h' : ∀ x ∈ ys, PyData.strOk x = true) : eqD (.lst (xs.map D.str)) (.lst (ys.map D.str)) μ = .ok (.bl (decide (xs = ys))) μ := by
  unfold eqD
  have e1 : (D.lst (xs.map D.str)).okd 60 = true := by rw [D.okd]; exact okd_strs 59 xs h
  have e2 : (D.lst (ys.map D.str)).okd 60 = true := by rw [D.okd]; exact okd_strs 59 ys h'
  simp only [vw_lst, e1, e2, Bool.and_self, if_true]
  rw [D.eqb, eqbL_strs]
theorem ne_lsts {xs ys : List Str} {μ : List Ob} (h : ∀ x ∈ xs, PyData.strOk x = true) (h' : ∀ x ∈ ys, PyData.strOk x = true) : neD (.lst (xs.map D.str)) (.lst (ys.map D.str)) μ = .ok (.bl (!decide (xs = ys))) μ := by
  unfold neD
  have e1 : (D.lst (xs.map D.str)).okd 60 = true := by rw [D.okd]; exact okd_strs 59 xs h
  have e2 : (D.lst (ys.map D.str)).okd 60 = true := by rw [D.okd]; exact okd_strs 59 ys h'
  simp only [vw_lst, e1, e2, Bool.and_self, if_true]
  rw [D.eqb, eqbL_strs]
theorem eq_ints {i j : Int} {μ : List Ob} : eqD (.int i) (.int j) μ = .ok (.bl (decide (i = j))) μ := by
  unfold eqD
  simp only [vw_int, D.okd, Bool.and_self, if_true, D.eqb]
  congr 2
theorem ne_ints {i j : Int} {μ : List Ob} : neD (.int i) (.int j) μ = .ok (.bl (!decide (i = j))) μ := by
  unfold neD
  simp only [vw_int, D.okd, Bool.and_self, if_true, D.eqb]
  congr 2
/-- a line as it comes here -/
structure Gl (l : Str) : Prop where
  len : l.length ≤ 1000
  nl : 10 ∉ TL.tl l
  ok : ∀ x ∈ Txt.split l " ", PyData.strOk x = true
  ne : Txt.split l " " ≠ []
def xl (a : Ad) (n : Int) : Exn := ⟨.ref a.kInvalidLine, ["line"], [.int n]⟩
theorem sp0 : ((" " : Str).length == 0) = false := by decide +kernel
theorem split_sp {l : Str} {μ : List Ob} (h : l.length ≤ 1000) : splitD (.str l) [.str " "] μ = .ok (.lst ((Txt.split l " ").map D.str)) μ := by
  show (if ((" " : Str).length == 0) = false ∧ l.length + 2 ≤ 16777216 then DL.R.ok (D.lst ((Txt.split l " ").map D.str)) μ else .bad) = _
  rw [if_pos ⟨sp0, by omega⟩]
theorem line_at_ok (a : Ad) (ls : List Str) (k : Nat) (l : Str) (μ : List Ob) (h : ls[k]? = some l) (hg : Gl l) : ct_line_at a [.lst (ls.map D.str), .int k] μ = .ok (.lst ((Txt.split l " ").map D.str)) μ := by
  have hk := (List.getElem?_eq_some_iff.mp h).1
  have h2 : atI (ls.map D.str) (k : Int) = some (.str l) := by
    obtain ⟨x, e1, e2⟩ := atI_in (xs := ls.map D.str) (i := (k : Int)) (by omega) (by simp; omega)
    rw [e1, ← e2]
    simp [h]
  have hs := split_sp (l := l) (μ := μ) hg.len
  have hn : ¬ ((ls.length : Int) ≤ (k : Int)) := by omega
  refine pu_rt ⟨[], ?_⟩ (by rw [D.sc]; exact sc_strs _)
  unfold r_line_at
  simp [hn, h2, isStr, hs]
theorem line_at_no (a : Ad) (ls : List Str) (k : Nat) (μ : List Ob) (h : ls.length ≤ k) : ct_line_at a [.lst (ls.map D.str), .int k] μ = .exc (xl a (ls.length + 1)) μ := by
  refine pu_ex ⟨[some (.lst (ls.map D.str)), some (.int k)], [], ?_⟩ (by simp [xl, scL, D.sc])
  have hn : (ls.length : Int) ≤ (k : Int) := by omega
  unfold r_line_at
  simp [hn, rRaise, xl]
end
end LX

namespace LX
open PySem L2 DL
noncomputable section
/-- a line of two words -/
def okW (part : Str) (allowed : List Str) : List Str → Bool
  | [x, y] => decide (x = part) && decide (y ∈ allowed)
  | _ => false
def wd2 : List Str → Str
  | [_, y] => y
  | _ => ""
theorem word_at_no (a : Ad) (ls : List Str) (k : Nat) (part : Str) (al : List Str) (μ : List Ob) (h : ls.length ≤ k) : ct_word_at a [.lst (ls.map D.str), .int k, .str part, .tup (al.map D.str)] μ = .exc (xl a (ls.length + 1)) μ := by
  have e := line_at_no a ls k μ h
  refine pu_ex ⟨[some (.lst (ls.map D.str)), some (.int k), some (.str part), some (.tup (al.map D.str)), none], [], ?_⟩ (by simp [xl, scL, D.sc])
  unfold r_word_at
  simp [e]
theorem word_at_ok (a : Ad) (ls : List Str) (k : Nat) (l part : Str) (al : List Str) (μ : List Ob) (h : ls[k]? = some l) (hg : Gl l) (hp : PyData.strOk part = true) (ha : ∀ x ∈ al, PyData.strOk x = true) :
    ct_word_at a [.lst (ls.map D.str), .int k, .str part, .tup (al.map D.str)] μ = if okW part al (Txt.split l " ") then .ok (.str (wd2 (Txt.split l " "))) μ else .exc (xl a (k + 1)) μ := by
  have e := line_at_ok a ls k l μ h hg
  have ho := hg.ok
  have hne := hg.ne
  generalize Txt.split l " " = ws at e ho hne
  have hbad : okW part al ws = false → ct_word_at a [.lst (ls.map D.str), .int k, .str part, .tup (al.map D.str)] μ = .exc (xl a (k + 1)) μ := by
    intro hw
    refine pu_ex ⟨[some (.lst (ls.map D.str)), some (.int k), some (.str part), some (.tup (al.map D.str)), some (.lst (ws.map D.str))], [], ?_⟩ (by simp [xl, scL, D.sc])
    unfold r_word_at
    match ws, ho, hne, e, hw with
    | [x], ho, _, e, _ =>
      simp at e
      simp [e, ne_ints, rRaise, xl]
    | [x, y], ho, _, e, hw =>
      simp at e
      have hx : PyData.strOk x = true := ho x (by simp)
      have hy : PyData.strOk y = true := ho y (by simp)
      have n1 := ne_strs (μ := μ) hx hp
      have n2 := in_strsT (neg := true) (μ := μ) hy ha
      by_cases h1 : x = part
      · subst h1
        by_cases h2 : y ∈ al
        · simp [okW, h2] at hw
        · simp [-inD_tup, e, ne_ints, n1, n2, rRaise, xl, h2]
      · simp [-inD_tup, e, ne_ints, n1, n2, rRaise, xl, h1]
    | x :: y :: z :: r, ho, _, e, _ =>
      have hl : ¬ ((r.length : Int) + 1 + 1 + 1 = 2) := by omega
      simp at e
      simp [e, ne_ints, rRaise, xl, hl]
  by_cases hw : okW part al ws = true
  · rw [if_pos hw]
    match ws, ho, e, hw with
    | [x, y], ho, e, hw =>
      simp at e
      have hx : PyData.strOk x = true := ho x (by simp)
      have hy : PyData.strOk y = true := ho y (by simp)
      have n1 := ne_strs (μ := μ) hx hp
      have n2 := in_strsT (neg := true) (μ := μ) hy ha
      simp [okW] at hw
      obtain ⟨rfl, hm⟩ := hw
      refine pu_rt ⟨[], ?_⟩ (by simp [D.sc])
      unfold r_word_at
      simp [-inD_tup, e, ne_ints, n1, n2, hm, wd2]
    | [], _, _, hw => simp [okW] at hw
    | [_], _, _, hw => simp [okW] at hw
    | _ :: _ :: _ :: _, _, _, hw => simp [okW] at hw
  · rw [if_neg hw]
    exact hbad (by simpa using hw)
/-- the last line -/
def okL : List Str → Bool
  | x :: r => decide (x = "words") && decide (W6.filter (fun w => decide (w ∈ r)) = r)
  | [] => false
theorem filt_words {t : Tg} {vs : List Nat} {ft : RT} {fe : RE} {δ : Sl} {μ : List Ob} (r : List Str) (h : ∀ w ∈ W6, ∃ δ1, t.set (.str w) (wipeD δ vs) = some δ1 ∧ ft δ1 μ = .ok (decide (w ∈ r)) μ ∧ fe δ1 μ = .ok (.str w) μ) : compL t vs ft fe (W6.map D.str) δ μ [] = .ok ((W6.filter fun w => decide (w ∈ r)).map D.str) μ := by
  have := comp_t (t := t) (vs := vs) (ft := ft) (fe := fe) (δ := δ) (μ := μ) D.str (fun w => decide (w ∈ r)) D.str W6 [] (by decide) fun w hw => let ⟨δ1, h1, h2, h3⟩ := h w hw; ⟨δ1, h1, h2, fun _ => h3⟩
  rw [List.nil_append] at this
  exact this
theorem fw_ok (q : Str → Bool) : ∀ x ∈ W6.filter q, PyData.strOk x = true := fun x hx => w6_ok x (List.mem_filter.mp hx).1
theorem ok_words : PyData.strOk "words" = true := by decide +kernel
theorem words_at_no (a : Ad) (ls : List Str) (k : Nat) (μ : List Ob) (h : ls.length ≤ k) : ct_words_at a [.lst (ls.map D.str), .int k] μ = .exc (xl a (ls.length + 1)) μ := by
  have e := line_at_no a ls k μ h
  refine pu_ex ⟨[some (.lst (ls.map D.str)), some (.int k), none, none], [], ?_⟩ (by simp [xl, scL, D.sc])
  unfold r_words_at
  simp [e]
theorem words_at_ok (a : Ad) (ls : List Str) (k : Nat) (l : Str) (μ : List Ob) (h : ls[k]? = some l) (hg : Gl l) :
    ct_words_at a [.lst (ls.map D.str), .int k] μ = if okL (Txt.split l " ") then .ok (.tup ((Txt.split l " ").tail.map D.str)) μ else .exc (xl a (k + 1)) μ := by
  have e := line_at_ok a ls k l μ h hg
  have ho := hg.ok
  have hne := hg.ne
  generalize Txt.split l " " = ws at e ho hne
  match ws, ho, hne, e with
  | x :: r, ho, _, e =>
    simp only [List.map_cons] at e
    have hx : PyData.strOk x = true := ho x (by simp)
    have hr : ∀ y ∈ r, PyData.strOk y = true := fun y hy => ho y (List.mem_cons_of_mem _ hy)
    have n1 := ne_strs (μ := μ) hx ok_words
    have f := filt_words (t := .nm 3) (vs := [3]) (ft := rT (rBin (inD false) (rVar 3) (rSlice (rVar 2) (rSome (rC (.int 1))) rNone))) (fe := rVar 3) (δ := [some (.lst (ls.map D.str)), some (.int k), some (.lst (.str x :: r.map D.str)), none]) (μ := μ) r fun w hw => by
      refine ⟨_, rfl, ?_, rfl⟩
      have := in_strs (neg := false) (μ := μ) (w6_ok w hw) hr
      simp [-inD_lst, wipeD, cutL_1, this]
    have f' : compL (.nm 3) [3] (rT (rBin (inD false) (rVar 3) (rSlice (rVar 2) (rSome (rC (.int 1))) rNone))) (rVar 3) [.str "anew", .str "lose", .str "number", .str "pause", .str "price", .str "search"] [some (.lst (ls.map D.str)), some (.int k), some (.lst (.str x :: r.map D.str)), none] μ [] = .ok ((W6.filter fun w => decide (w ∈ r)).map D.str) μ := f
    have n2 := ne_lsts (μ := μ) (fw_ok fun w => decide (w ∈ r)) hr
    have hWd : d_WORDS a = .tup [.str "anew", .str "lose", .str "number", .str "pause", .str "price", .str "search"] := rfl
    by_cases hw : okL (x :: r) = true
    · rw [if_pos hw]
      simp only [okL, Bool.and_eq_true, decide_eq_true_eq] at hw
      obtain ⟨rfl, hm⟩ := hw
      rw [hm] at n2 f'
      refine pu_rt ⟨[], ?_⟩ (by rw [D.sc]; exact sc_strs _)
      unfold r_words_at
      simp [e, n1, hWd, itemsD, f', n2, cutL_1]
    · rw [if_neg hw]
      simp only [okL, Bool.and_eq_true, decide_eq_true_eq, not_and] at hw
      refine pu_ex ⟨[some (.lst (ls.map D.str)), some (.int k), some (.lst (.str x :: r.map D.str)), none], [], ?_⟩ (by simp [xl, scL, D.sc])
      unfold r_words_at
      by_cases h1 : x = "words"
      · have hw2 := hw h1
        subst h1
        simp [e, n1, hWd, itemsD, f', n2, hw2, cutL_1, rRaise, xl]
      · simp [e, n1, h1, rRaise, xl]
end
end LX

namespace LX
open PySem L2 DL
noncomputable section
theorem kn01 : ¬ ((.inr "counts" : Key) = .inr "evening") := by decide +kernel
theorem kn02 : ¬ ((.inr "counts" : Key) = .inr "lost") := by decide +kernel
theorem kn03 : ¬ ((.inr "counts" : Key) = .inr "remembers") := by decide +kernel
theorem kn04 : ¬ ((.inr "counts" : Key) = .inr "search") := by decide +kernel
theorem kn05 : ¬ ((.inr "counts" : Key) = .inr "tells") := by decide +kernel
theorem kn12 : ¬ ((.inr "evening" : Key) = .inr "lost") := by decide +kernel
theorem kn13 : ¬ ((.inr "evening" : Key) = .inr "remembers") := by decide +kernel
theorem kn14 : ¬ ((.inr "evening" : Key) = .inr "search") := by decide +kernel
theorem kn15 : ¬ ((.inr "evening" : Key) = .inr "tells") := by decide +kernel
theorem kn23 : ¬ ((.inr "lost" : Key) = .inr "remembers") := by decide +kernel
theorem kn24 : ¬ ((.inr "lost" : Key) = .inr "search") := by decide +kernel
theorem kn25 : ¬ ((.inr "lost" : Key) = .inr "tells") := by decide +kernel
theorem kn34 : ¬ ((.inr "remembers" : Key) = .inr "search") := by decide +kernel
theorem kn35 : ¬ ((.inr "remembers" : Key) = .inr "tells") := by decide +kernel
theorem kn45 : ¬ ((.inr "search" : Key) = .inr "tells") := by decide +kernel
section
variable (x0 x1 x2 x3 x4 x5 : D)
theorem lk0 : lookD K6 [x0, x1, x2, x3, x4, x5] (.inr "counts") = some x0 := by unfold K6; rw [lookD, if_pos rfl]
theorem lk1 : lookD K6 [x0, x1, x2, x3, x4, x5] (.inr "evening") = some x1 := by unfold K6; rw [lookD, if_neg kn01, lookD, if_pos rfl]
theorem lk2 : lookD K6 [x0, x1, x2, x3, x4, x5] (.inr "lost") = some x2 := by unfold K6; rw [lookD, if_neg kn02, lookD, if_neg kn12, lookD, if_pos rfl]
theorem lk3 : lookD K6 [x0, x1, x2, x3, x4, x5] (.inr "remembers") = some x3 := by unfold K6; rw [lookD, if_neg kn03, lookD, if_neg kn13, lookD, if_neg kn23, lookD, if_pos rfl]
theorem lk4 : lookD K6 [x0, x1, x2, x3, x4, x5] (.inr "search") = some x4 := by unfold K6; rw [lookD, if_neg kn04, lookD, if_neg kn14, lookD, if_neg kn24, lookD, if_neg kn34, lookD, if_pos rfl]
theorem lk5 : lookD K6 [x0, x1, x2, x3, x4, x5] (.inr "tells") = some x5 := by unfold K6; rw [lookD, if_neg kn05, lookD, if_neg kn15, lookD, if_neg kn25, lookD, if_neg kn35, lookD, if_neg kn45, lookD, if_pos rfl]
end
theorem is_int (a : Ad) (i lo hi : Int) (μ : List Ob) : ct_is_integer a [.int i, .int lo, .int hi] μ = .ok (.bl (decide (lo ≤ i) && decide (i ≤ hi))) μ := by
  refine pu_rt ⟨[], ?_⟩ (by simp [D.sc])
  unfold r_is_integer
  by_cases h : lo ≤ i
  · simp [isiD, isT, D.tyS, kb_int, kb_ib, h]
  · simp [isiD, isT, D.tyS, kb_int, kb_ib, h]
theorem is_word_l (a : Ad) {w : Str} {ws : List Str} (μ : List Ob) (h : PyData.strOk w = true) (ho : ∀ x ∈ ws, PyData.strOk x = true) : ct_is_word a [.str w, .lst (ws.map D.str)] μ = .ok (.bl (decide (w ∈ ws))) μ := by
  refine pu_rt ⟨[], ?_⟩ (by simp [D.sc])
  have e := in_strs (neg := false) (μ := μ) h ho
  unfold r_is_word
  simp [-inD_lst, isiD, isT, D.tyS, kb_str, e]
theorem is_word_t (a : Ad) {w : Str} {ws : List Str} (μ : List Ob) (h : PyData.strOk w = true) (ho : ∀ x ∈ ws, PyData.strOk x = true) : ct_is_word a [.str w, .tup (ws.map D.str)] μ = .ok (.bl (decide (w ∈ ws))) μ := by
  refine pu_rt ⟨[], ?_⟩ (by simp [D.sc])
  have e := in_strsT (neg := false) (μ := μ) h ho
  unfold r_is_word
  simp [-inD_tup, isiD, isT, D.tyS, kb_str, e]
def KW : List Str := ["counts", "evening", "lost", "remembers", "search", "tells"]
theorem kw_ok : ∀ x ∈ KW, PyData.strOk x = true := by decide +kernel
theorem pw_ok : ∀ p ∈ PWs, PyData.strOk p.1 = true ∧ ∀ x ∈ p.2, PyData.strOk x = true := by decide +kernel
theorem bls_true {ι : Type} : ∀ xs : List ι, blsD (xs.map fun _ => D.bl true) = some (xs.map fun _ => true)
  | [] => rfl
  | x :: xs => by
    rw [List.map_cons, blsD, bls_true xs]
    rfl
theorem all_true {ι : Type} {xs : List ι} {μ : List Ob} : allD false [.lst (xs.map fun _ => D.bl true)] μ = .ok (.bl true) μ := by
  unfold allD
  simp [bls_true]
theorem onP_P (a : Ad) (g : List Ob → R D) (μ : List Ob) : onP a.cPARTS g [d_PARTS a] μ = g μ := if_pos rfl
theorem hp6 (a : Ad) : pairsP ((kv_PARTS a).map (·.1)) xs_PARTS = PWs.map fun p => .tup [.str p.1, .tup (p.2.map D.str)] := rfl
theorem k6_d : K6.map Key.d = KW.map D.str := rfl
theorem kv_keys (a : Ad) : ((kv_PARTS a).map (·.1)).map Key.d = KW.map D.str := rfl
theorem kv_keys' (a : Ad) : (kv_PARTS a).map (Key.d ∘ fun x => x.fst) = KW.map D.str := rfl
theorem kv_len (a : Ad) : (kv_PARTS a).length = 6 := rfl
theorem RlOk.at {r : Rl} (h : RlOk r) : ∀ p ∈ PWs, ∃ w, lookD K6 [.str r.c, .str r.e, .str r.l, .str r.m, .str r.s, .str r.t] (.inr p.1) = some (.str w) ∧ w ∈ p.2 := fun p hp => by
  unfold PWs at hp
  simp only [List.mem_cons, List.not_mem_nil, or_false] at hp
  rcases hp with rfl | rfl | rfl | rfl | rfl | rfl
  · exact ⟨_, lk0 .., h.c⟩
  · exact ⟨_, lk1 .., h.e⟩
  · exact ⟨_, lk2 .., h.l⟩
  · exact ⟨_, lk3 .., h.m⟩
  · exact ⟨_, lk4 .., h.s⟩
  · exact ⟨_, lk5 .., h.t⟩
theorem check_ok (a : Ad) {r : Rl} (μ : List Ob) (Q : RlOk r) : ct_check_rule a [ruleD r] μ = .ok .non μ := by
  have e1 := comp_t (t := .nm 1) (vs := [1]) (ft := rYes) (fe := rCall 2 (ct_is_word a) (rCons (rVar 1) (rCons (rCB (onP a.cPARTS fun μ => .ok (.lst (((kv_PARTS a).map (·.1)).map Key.d)) μ) (rCons (rC (d_PARTS a)) rNil)) rNil))) (δ := [some (ruleD r), none, none]) (μ := μ) D.str (fun _ => true) (fun _ => .bl true) KW [] (by decide) fun w hw => by
    refine ⟨_, rfl, rfl, fun _ => ?_⟩
    have := is_word_l a (w := w) (ws := KW) μ (kw_ok w hw) kw_ok
    simp [wipeD, onP_P, kv_keys', this, hw]
  have e2 : itemsD (ruleD r) = some (KW.map D.str) := rfl
  rw [List.nil_append, List.filter_eq_self.mpr (fun _ _ => rfl)] at e1
  have hP : rP a.cPARTS (pairsP ((kv_PARTS a).map (·.1)) xs_PARTS) (rC (d_PARTS a)) [some (ruleD r), none, none] μ = .ok (pairsP ((kv_PARTS a).map (·.1)) xs_PARTS) μ := if_pos rfl
  have f := fun g0 : RS => (for_t (t := .tp [1, 2]) (body := rIfS (rNotT (rT (rCall 2 (ct_is_word a) (rCons (rBin getD (rVar 0) (rVar 1)) (rCons (rVar 2) rNil))))) g0 (fun δ μ => .nx δ μ)) (S := fun s : Option D × Option D => [some (ruleD r), s.1, s.2]) (M := fun _ => μ)
    (enc := fun p : Str × List Str => .tup [.str p.1, .tup (p.2.map D.str)]) (step := fun _ p => (some (.str p.1), some (.tup (p.2.map D.str)))) (fun _ => True) PWs (none, none) trivial fun s p hp _ => by
      obtain ⟨w, h1, h2⟩ := Q.at p hp
      have h3 := is_word_t a (w := w) (ws := p.2) μ ((pw_ok p hp).2 w h2) (pw_ok p hp).2
      refine ⟨trivial, _, rfl, ?_⟩
      have h4 : getV (ruleD r) (.str p.1) μ = .ok (.str w) μ := by unfold ruleD; rw [getV_str, h1]; rfl
      have h5 : (ruleD r).view μ = ruleD r := rfl
      simp [setsD, h4, h5, h3, h2]).2
  have h5 : (ruleD r).view μ = ruleD r := rfl
  have c1 : rNotT (rT (rCB (isiD (.ty "dict") (isT "dict")) (rCons (rVar 0) (rCons (rC (.vv (.ty "dict"))) rNil)))) [some (ruleD r), none, none] μ = .ok false μ := by
    simp [isiD, isT, kb_dct, D.tyS, ruleD]
  simp only [← hp6 a] at f
  generalize PWs.foldl (fun (_ : Option D × Option D) (p : Str × List Str) => ((some (.str p.1) : Option D), (some (.tup (p.2.map D.str)) : Option D))) (none, none) = z at f
  refine pu_nx ⟨[some (ruleD r), z.1, z.2], [], ?_⟩
  have c2 : rT (rBin neD (rCB lenD (rCons (rVar 0) rNil)) (rCB (onP a.cPARTS fun μ => .ok (.int ((kv_PARTS a).length : Nat)) μ) (rCons (rC (d_PARTS a)) rNil))) [some (ruleD r), none, none] μ = .ok false μ := by
    have : lenV (ruleD r) μ = .ok (.int 6) μ := rfl
    simp [h5, this, onP_P, kv_len, ne_ints]
  have c3 : rNotT (rT (rCB (allD false) (rCons (rLc (rItems (rVar 0)) (.nm 1) (([("part", 1)] : List (Str × Nat)).map (·.2)) rYes (rCall 2 (ct_is_word a) (rCons (rVar 1) (rCons (rCB (onP a.cPARTS fun μ => .ok (.lst (((kv_PARTS a).map (·.1)).map Key.d)) μ) (rCons (rC (d_PARTS a)) rNil)) rNil)))) rNil))) [some (ruleD r), none, none] μ = .ok false μ := by
    rw [s_rNotT, s_rT, s_rCB, s_rCons, s_rLc]
    have : rItems (rVar 0) [some (ruleD r), none, none] μ = .ok (KW.map D.str) μ := rfl
    rw [this]
    simp only [R.ok_bind, List.map_cons, List.map_nil]
    rw [e1]
    simp only [R.ok_bind, s_rNil, all_true]
    rfl
  simp only [List.map_cons, List.map_nil] at c3
  unfold r_check_rule
  simp only [List.map_cons, List.map_nil, List.replicate, List.append_nil, List.cons_append, List.nil_append, s_rSeq, s_rIfS, s_rOrT, c1, c2, c3, R.ok_bind, R.ok_st, s_rFor, hP, f]
end
end LX

namespace LX
open PySem L2 DL
noncomputable section
abbrev F3 : List Str := ["highest", "terms", "kinds"]
def bookD (a : Ad) (p : Int) (r w : D) : D := .ins a.kBook F3 [.int p, r, w]
theorem st_fld {C : Addr} {f : Str} {k : Nat} {d : D} {μ : List Ob} {fs : List Str} {xs : List D} (e : μ[k]? = some (.ins C fs xs)) (hl : fs.length < 1000) (nd : fs.Nodup) : stFld C f (.loc k) d μ = .ok () (μ.set k (.ins C (putFs fs f) (putFx fs xs f d))) := by
  unfold stFld
  simp only [e, if_true]
  rw [if_pos hl, if_pos nd]
theorem pf1 : putFs [] "highest" = (["highest"] : List Str) := rfl
theorem pf2 : putFs ["highest"] "terms" = (["highest", "terms"] : List Str) := by decide +kernel
theorem pf3 : putFs ["highest", "terms"] "kinds" = F3 := by decide +kernel
theorem pn1 : (["highest"] : List Str).Nodup := by decide +kernel
theorem pn2 : (["highest", "terms"] : List Str).Nodup := by decide +kernel
theorem pg2 : ((["highest"] : List Str).any fun g => decide (g = "terms")) = false := by decide +kernel
theorem pg3 : ((["highest", "terms"] : List Str).any fun g => decide (g = "kinds")) = false := by decide +kernel
theorem px1 (d : D) : putFx [] [] "highest" d = [d] := rfl
theorem px2 (x d : D) : putFx ["highest"] [x] "terms" d = [x, d] := by
  unfold putFx
  rw [pg2]
  rfl
theorem px3 (x y d : D) : putFx ["highest", "terms"] [x, y] "kinds" d = [x, y, d] := by
  unfold putFx
  rw [pg3]
  rfl
theorem filt_self {ws : List Str} {q : Str → Bool} (h : ws = W6.filter q) : (W6.filter fun w => decide (w ∈ ws)) = ws := by
  subst h
  refine List.filter_congr fun w hw => ?_
  rw [Bool.eq_iff_iff, decide_eq_true_iff, List.mem_filter]
  exact ⟨fun h => h.2, fun h => ⟨hw, h⟩⟩
theorem dict_ok (a : Ad) {r : Rl} {δ : Sl} {μ : List Ob} (h : δ = [δ[0]!, δ[1]!, some (ruleD r), δ[3]!, δ[4]!, δ[5]!]) : rDc (rP a.cPARTS (((kv_PARTS a).map (·.1)).map Key.d) (rC (d_PARTS a))) (.nm 4) [4] rYes (rVar 4) (rBin getD (rVar 2) (rVar 4)) δ μ = .ok (ruleD r) μ := by
  have h1 : rP a.cPARTS (((kv_PARTS a).map (·.1)).map Key.d) (rC (d_PARTS a)) δ μ = .ok [.str "counts", .str "evening", .str "lost", .str "remembers", .str "search", .str "tells"] μ := if_pos rfl
  rw [s_rDc, h1]
  generalize δ[0]! = b0 at h
  generalize δ[1]! = b1 at h
  generalize δ[3]! = b3 at h
  generalize δ[4]! = b4 at h
  generalize δ[5]! = b5 at h
  subst h
  simp [dcL, wipeD, Tg.set, ruleD, D.key, lk0, lk1, lk2, lk3, lk4, lk5, putKs, putXs, hk1, hk2, hk3, hk4, hk5, hk6]
  rfl
theorem init_ok (a : Ad) {r : Rl} {p : Int} {q : Str → Bool} {μ : List Ob} (Q : RlOk r) (hp : 2 ≤ p ∧ p ≤ 3) :
    cm_Book a [.loc μ.length, .int p, ruleD r, wordsD q] (μ ++ [.ins a.kBook [] []]) = .ok .non (μ ++ [.ins a.kBook F3 [.int p, ruleD r, wordsD q]]) := by
  have i1 := is_int a p 2 3 (μ ++ [.ins a.kBook [] []])
  have i2 := check_ok a (μ ++ [.ins a.kBook [] []]) Q
  have hWd : d_WORDS a = .tup (W6.map D.str) := rfl
  have c1 := comp_t (t := .nm 5) (vs := [5]) (ft := rYes) (fe := rCall 2 (ct_is_word a) (rCons (rVar 5) (rCons (rC (d_WORDS a)) rNil))) (δ := [some (.loc μ.length), some (.int p), some (ruleD r), some (wordsD q), none, none]) (μ := μ ++ [.ins a.kBook [] []]) D.str (fun _ => true) (fun _ => .bl true) (wordsL q) [] (by
      have := List.length_filter_le q W6
      have h6 : W6.length = 6 := rfl
      simp only [List.length_nil, wordsL]
      omega) fun w hw => by
    refine ⟨_, rfl, rfl, fun _ => ?_⟩
    have hm := (List.mem_filter.mp hw).1
    have := is_word_t a (w := w) (ws := W6) (μ ++ [.ins a.kBook [] []]) (w6_ok w hm) w6_ok
    simp [wipeD, hWd, this, hm]
  rw [List.nil_append, List.filter_eq_self.mpr (fun _ _ => rfl), hWd] at c1
  have c2 := filt_words (t := .nm 5) (vs := [5]) (ft := rT (rBin (inD false) (rVar 5) (rVar 3))) (fe := rVar 5) (δ := [some (.loc μ.length), some (.int p), some (ruleD r), some (wordsD q), none, none]) (μ := μ ++ [.ins a.kBook [] []]) (wordsL q) fun w hw => by
    refine ⟨_, rfl, ?_, rfl⟩
    have := in_strsT (neg := false) (ws := wordsL q) (μ := μ ++ [.ins a.kBook [] []]) (w6_ok w hw) (fw_ok q)
    simp [-inD_tup, wipeD, wordsD, this]
  rw [filt_self (ws := wordsL q) (q := q) rfl] at c2
  have n2 := ne_lsts (μ := μ ++ [.ins a.kBook [] []]) (xs := wordsL q) (ys := wordsL q) (fw_ok q) (fw_ok q)
  have iw : itemsD (wordsD q) = some ((wordsL q).map D.str) := rfl
  have iW : itemsD (.tup (W6.map D.str)) = some (W6.map D.str) := rfl
  have e1 : (μ ++ [Ob.ins a.kBook [] []])[μ.length]? = some (.ins a.kBook [] []) := by simp
  have s1 := st_fld (f := "highest") (d := .int p) e1 (by decide) List.nodup_nil
  have st : ∀ x y : Ob, (μ ++ [x]).set μ.length y = μ ++ [y] := fun x y => by simp
  rw [pf1, px1, st] at s1
  have e2 : (μ ++ [Ob.ins a.kBook ["highest"] [.int p]])[μ.length]? = some (.ins a.kBook ["highest"] [.int p]) := by simp
  have s2 := st_fld (f := "terms") (d := ruleD r) e2 (by decide) pn1
  rw [pf2, px2, st] at s2
  have e3 : (μ ++ [Ob.ins a.kBook ["highest", "terms"] [.int p, ruleD r]])[μ.length]? = some (.ins a.kBook ["highest", "terms"] [.int p, ruleD r]) := by simp
  have s3 := st_fld (f := "kinds") (d := wordsD q) e3 (by decide) pn2
  rw [pf3, px3, st] at s3
  have vw : ∀ μ', (wordsD q).view μ' = .tup ((wordsL q).map D.str) := fun _ => rfl
  have hD := dict_ok a (r := r) (δ := [some (.loc μ.length), some (.int p), some (ruleD r), some (wordsD q), none, none]) (μ := μ ++ [.ins a.kBook ["highest"] [.int p]]) rfl
  refine ctT_nx (δ := [some (.loc μ.length), some (.int p), some (ruleD r), some (wordsD q), none, none]) (j := []) ?_ ⟨by simp, fun k o hk e => ?_⟩
  · rw [List.append_nil]
    unfold r_Book_init
    simp only [List.map_cons, List.map_nil] at hD ⊢
    simp [-getElem?_pos, -List.getElem?_eq_getElem, List.getElem?_cons_zero, List.getElem?_cons_succ, i1, hp.1, hp.2, i2, isiD, isT, D.tyS, kb_tup, vw, iw, c1, all_true, hWd, iW, c2, n2, s1, s2, s3, -s_rDc, hD, -List.map_const', -List.map_map]
  · by_cases h : k < μ.length
    · rw [List.getElem?_append_left h] at e ⊢
      exact .inl e
    · have : k = μ.length := by simp at hk; omega
      subst this
      simp at e
      subst e
      right
      simp [Ob.sc, scL, D.sc, ruleD, wordsD, sc_strs]
theorem make_ok (a : Ad) {r : Rl} {p : Int} {q : Str → Bool} {μ μ1 : List Ob} {δ : Sl} {fs : RA} (Q : RlOk r) (hp : 2 ≤ p ∧ p ≤ 3) (e : fs δ μ = .ok [.int p, ruleD r, wordsD q] μ1) :
    rMake a.kBook 3 (cm_Book a) fs δ μ = .ok (bookD a p (ruleD r) (wordsD q)) (μ1 ++ [.dead]) := by
  have i := init_ok a (q := q) (μ := μ1) Q hp
  have h1 : ∀ x y : Ob, (μ1 ++ [x]).set μ1.length y = μ1 ++ [y] := fun x y => by simp
  have h2 : (μ1 ++ [Ob.ins a.kBook F3 [.int p, ruleD r, wordsD q]])[μ1.length]? = some (.ins a.kBook F3 [.int p, ruleD r, wordsD q]) := by simp
  rw [s_rMake, e]
  simp only [R.ok_bind, List.length_cons, List.length_nil]
  simp only [if_true]
  rw [i]
  simp only [h2]
  rw [h1]
  rfl
end
end LX

namespace LX
open PySem L2 DL
noncomputable section
/-- whether words are those of a line, by its number -/
def okLine (k : Nat) (ws : List Str) : Bool := match k with
  | 0 => okW "prices" ["2", "3"] ws
  | k + 1 => match PWs[k]? with
    | some p => okW p.1 p.2 ws
    | none => if k = 6 then okL ws else false
/-- the number of the first wrong line, from line k on -/
def W (k : Nat) : List Str → Option Nat
  | [] => if k < 8 then some (k + 1) else none
  | l :: ls => if okLine k (Txt.split l " ") then W (k + 1) ls else some (k + 1)
theorem p23 : ∀ x ∈ (["2", "3"] : List Str), PyData.strOk x = true := by decide +kernel
theorem ok_prices : PyData.strOk "prices" = true := by decide +kernel
theorem okW_pair {part : Str} {x y : Str} {ws : List Str} : okW part [x, y] ws = (decide (ws = [part, x]) || decide (ws = [part, y])) := by
  match ws with
  | [] => simp [okW]
  | [_] => simp [okW]
  | [u, v] =>
    rw [Bool.eq_iff_iff]
    simp [okW]
    constructor
    · rintro ⟨rfl, h | h⟩
      · exact .inl ⟨rfl, h⟩
      · exact .inr ⟨rfl, h⟩
    · rintro (⟨rfl, h⟩ | ⟨rfl, h⟩)
      · exact ⟨rfl, .inl h⟩
      · exact ⟨rfl, .inr h⟩
  | _ :: _ :: _ :: _ => simp [okW]
theorem is_line_0 (a : Ad) (ws : List Str) (μ : List Ob) (h : ∀ x ∈ ws, PyData.strOk x = true) : ct__law_is_line a [.lst (ws.map D.str), .int 0] μ = .ok (.bl (okLine 0 ws)) μ := by
  refine pu_rt ⟨[], ?_⟩ (by simp [D.sc])
  have o1 := okd_strs 59 ws h
  have o2 : okdL 60 [.lst [.str "prices", .str "2"], .lst [.str "prices", .str "3"]] = true := by decide +kernel
  have e1 : (D.lst [.str "prices", .str "2"]).eqb (.lst (ws.map D.str)) = decide (ws = (["prices", "2"] : List Str)) := by
    have := eqbL_strs ["prices", "2"] ws
    simp only [List.map_cons, List.map_nil] at this
    rw [D.eqb, this]
    simp [eq_comm]
  have e2 : (D.lst [.str "prices", .str "3"]).eqb (.lst (ws.map D.str)) = decide (ws = (["prices", "3"] : List Str)) := by
    have := eqbL_strs ["prices", "3"] ws
    simp only [List.map_cons, List.map_nil] at this
    rw [D.eqb, this]
    simp [eq_comm]
  have o3 : (D.lst (ws.map D.str)).okd 60 = true := by rw [D.okd]; exact o1
  unfold r_law_is_line
  simp [eq_ints, o2, o3, e1, e2, okLine, okW_pair]
theorem is_line_p (a : Ad) (ws : List Str) (μ : List Ob) (k : Nat) (p : Str × List Str) (hk : PWs[k]? = some p) (h : ∀ x ∈ ws, PyData.strOk x = true) : ct__law_is_line a [.lst (ws.map D.str), .int ((k : Int) + 1)] μ = .ok (.bl (okLine (k + 1) ws)) μ := by
  have hk6 : k < 6 := (List.getElem?_eq_some_iff.mp hk).1
  have hp := pw_ok p (List.mem_of_getElem? hk)
  refine pu_rt ⟨[], ?_⟩ (by simp [D.sc])
  have n0 : ¬ ((k : Int) + 1 = 0) := by omega
  have n1 : (k : Int) + 1 < 7 := by omega
  have ea : atI (PWs.map row) (k : Int) = some (row p) := by
    obtain ⟨x, e1, e2⟩ := atI_in (xs := PWs.map row) (i := (k : Int)) (by omega) (by simp [PWs]; omega)
    rw [e1, ← e2]
    simp [hk]
  have es : (k : Int) + 1 - 1 = k := by omega
  unfold r_law_is_line
  have ok2 : okLine (k + 1) ws = okW p.1 p.2 ws := by unfold okLine; simp only [hk]
  rw [ok2]
  match ws, h with
  | [], _ => simp [eq_ints, n0, n1, parts_ok, noX, es, ea, okW]
  | [x], _ => simp [eq_ints, n0, n1, parts_ok, noX, es, ea, okW]
  | [x, y], h =>
    have n2 := eq_strs (μ := μ) (h x (by simp)) hp.1
    have n3 := in_strs (neg := false) (μ := μ) (h y (by simp)) hp.2
    by_cases h1 : x = p.1
    · subst h1
      simp [-inD_lst, eq_ints, n0, n1, parts_ok, noX, es, ea, okW, row, n2, n3, cutL_1]
    · simp [-inD_lst, eq_ints, n0, n1, parts_ok, noX, es, ea, okW, row, n2, n3, cutL_1, h1]
  | _ :: _ :: _ :: r, _ =>
    have hl : ¬ ((r.length : Int) + 1 + 1 + 1 = 2) := by omega
    simp [eq_ints, n0, n1, parts_ok, noX, es, ea, okW, hl]
theorem is_line_7 (a : Ad) (ws : List Str) (μ : List Ob) (hne : ws ≠ []) (h : ∀ x ∈ ws, PyData.strOk x = true) : ct__law_is_line a [.lst (ws.map D.str), .int 7] μ = .ok (.bl (okLine 7 ws)) μ := by
  refine pu_rt ⟨[], ?_⟩ (by simp [D.sc])
  match ws, hne, h with
  | x :: r, _, h =>
    have hr : ∀ y ∈ r, PyData.strOk y = true := fun y hy => h y (List.mem_cons_of_mem _ hy)
    have n1 := ne_strs (μ := μ) (h x (by simp)) ok_words
    have f := filt_words (t := .nm 4) (vs := [4]) (ft := rT (rBin (inD false) (rVar 4) (rSlice (rVar 0) (rSome (rC (.int 1))) rNone))) (fe := rVar 4) (δ := [some (.lst (.str x :: r.map D.str)), some (.int 7), some (.lst (W6.map D.str)), none, none]) (μ := μ) r fun w hw => by
      refine ⟨_, rfl, ?_, rfl⟩
      have := in_strs (neg := false) (μ := μ) (w6_ok w hw) hr
      simp [-inD_lst, wipeD, cutL_1, this]
    have f' : compL (.nm 4) [4] (rT (rBin (inD false) (rVar 4) (rSlice (rVar 0) (rSome (rC (.int 1))) rNone))) (rVar 4) [.str "anew", .str "lose", .str "number", .str "pause", .str "price", .str "search"] [some (.lst (.str x :: r.map D.str)), some (.int 7), some (.lst [.str "anew", .str "lose", .str "number", .str "pause", .str "price", .str "search"]), none, none] μ [] = .ok ((W6.filter fun w => decide (w ∈ r)).map D.str) μ := f
    have n2 := eq_lsts (μ := μ) (fw_ok fun w => decide (w ∈ r)) hr
    have ok2 : okLine 7 (x :: r) = (decide (x = "words") && decide (W6.filter (fun w => decide (w ∈ r)) = r)) := rfl
    rw [ok2]
    unfold r_law_is_line
    by_cases h1 : x = "words"
    · subst h1
      simp [eq_ints, n1, itemsD, f', n2, cutL_1]
    · simp [eq_ints, n1, h1]
theorem is_line_8 (a : Ad) (ws : List Str) (μ : List Ob) (k : Nat) (hk : 8 ≤ k) : ct__law_is_line a [.lst (ws.map D.str), .int (k : Int)] μ = .ok (.bl (okLine k ws)) μ := by
  refine pu_rt ⟨[], ?_⟩ (by simp [D.sc])
  have n0 : ¬ ((k : Int) = 0) := by omega
  have n1 : ¬ ((k : Int) < 7) := by omega
  have n2 : (7 : Int) < (k : Int) := by omega
  have ok2 : okLine k ws = false := by
    match k, hk with
    | k + 1, hk =>
      unfold okLine
      have : PWs[k]? = none := List.getElem?_eq_none (by simp [PWs]; omega)
      simp only [this]
      rw [if_neg (by omega)]
  rw [ok2]
  unfold r_law_is_line
  have m0 : ¬ k = 0 := by omega
  have m1 : ¬ k < 7 := by omega
  have m2 : 7 < k := by omega
  simp [eq_ints, n0, n1, n2, m0, m1, m2]
theorem is_line_ok (a : Ad) (ws : List Str) (μ : List Ob) (k : Nat) (hne : ws ≠ []) (h : ∀ x ∈ ws, PyData.strOk x = true) : ct__law_is_line a [.lst (ws.map D.str), .int (k : Int)] μ = .ok (.bl (okLine k ws)) μ := by
  by_cases h8 : 8 ≤ k
  · exact is_line_8 a ws μ k h8
  · match k, h8 with
    | 0, _ => exact is_line_0 a ws μ h
    | 7, _ => exact is_line_7 a ws μ hne h
    | 1, _ => exact is_line_p a ws μ 0 _ rfl h
    | 2, _ => exact is_line_p a ws μ 1 _ rfl h
    | 3, _ => exact is_line_p a ws μ 2 _ rfl h
    | 4, _ => exact is_line_p a ws μ 3 _ rfl h
    | 5, _ => exact is_line_p a ws μ 4 _ rfl h
    | 6, _ => exact is_line_p a ws μ 5 _ rfl h
    | k + 8, h8 => omega
end
end LX

namespace LX
open PySem L2 DL
noncomputable section
/-- the first wrong one of these lines -/
def Wl (k : Nat) : List Str → Option Nat
  | [] => none
  | l :: ls => if okLine k (Txt.split l " ") then Wl (k + 1) ls else some (k + 1)
theorem W_eq : ∀ (ls : List Str) (k : Nat), W k ls = (match Wl k ls with
  | some n => some n
  | none => if k + ls.length < 8 then some (k + ls.length + 1) else none)
  | [], k => by simp [W, Wl]
  | l :: ls, k => by
    rw [W, Wl]
    split
    · rw [W_eq ls (k + 1), List.length_cons]
      have e : k + 1 + ls.length = k + (ls.length + 1) := by omega
      rw [e]
    · rfl
abbrev bFw (a : Ad) : RS := rIfS (rNotT (rT (rCall 2 (ct__law_is_line a) (rCons (rMt isStr splitD (rBin getD (rVar 0) (rVar 1)) (rCons (rC (.str " ")) rNil)) (rCons (rVar 1) rNil))))) (rRet (rBin addD (rVar 1) (rC (.int 1)))) (fun δ μ => .nx δ μ)
theorem fw_loop (a : Ad) (μ : List Ob) : ∀ (ls pre : List Str) (o : Option D), (∀ l ∈ ls, Gl l) → ∃ o', forL (.nm 1) (bFw a) ((List.range' pre.length ls.length).map fun k => D.int (k : Nat)) [some (.lst ((pre ++ ls).map D.str)), o] μ = (match Wl pre.length ls with
    | some n => .rt (.int n) μ
    | none => .nx [some (.lst ((pre ++ ls).map D.str)), o'] μ)
  | [], pre, o, _ => ⟨o, by simp [Wl, forL]⟩
  | l :: ls, pre, o, hg => by
    have gl := hg l List.mem_cons_self
    obtain ⟨o', ih⟩ := fw_loop a μ ls (pre ++ [l]) (some (.int (pre.length : Nat))) fun x hx => hg x (List.mem_cons_of_mem _ hx)
    refine ⟨o', ?_⟩
    have ea : atI ((pre ++ l :: ls).map D.str) (pre.length : Int) = some (.str l) := by
      obtain ⟨x, e1, e2⟩ := atI_in (xs := (pre ++ l :: ls).map D.str) (i := (pre.length : Int)) (by omega) (by simp; omega)
      rw [e1, ← e2]
      simp
    have e1 := is_line_ok a (Txt.split l " ") μ pre.length gl.ne gl.ok
    have e2 := split_sp (l := l) (μ := μ) gl.len
    have eb : bFw a [some (.lst ((pre ++ l :: ls).map D.str)), some (.int (pre.length : Nat))] μ = if okLine pre.length (Txt.split l " ") then .nx [some (.lst ((pre ++ l :: ls).map D.str)), some (.int (pre.length : Nat))] μ else .rt (.int ((pre.length + 1 : Nat))) μ := by
      generalize (pre ++ l :: ls).map D.str = L at ea
      cases hk : okLine pre.length (Txt.split l " ") with
      | true => simp [ea, isStr, e2, e1, hk]
      | false => simp [ea, isStr, e2, e1, hk]
    have hr : List.range' pre.length (l :: ls).length = pre.length :: List.range' (pre ++ [l]).length ls.length := by simp [List.range'_succ]
    rw [hr, List.map_cons, forL]
    show (match bFw a [some (.lst ((pre ++ l :: ls).map D.str)), some (.int (pre.length : Nat))] μ with
      | .nx δ2 μ2 => forL (.nm 1) (bFw a) _ δ2 μ2
      | .ct δ2 μ2 => forL (.nm 1) (bFw a) _ δ2 μ2
      | .bk δ2 μ2 => .nx δ2 μ2
      | r => r) = _
    rw [eb, Wl]
    have el : pre ++ [l] ++ ls = pre ++ l :: ls := by simp
    have en : (pre ++ [l]).length = pre.length + 1 := by simp
    rw [el, en] at ih
    cases hk : okLine pre.length (Txt.split l " ") with
    | true =>
      simp only [if_true]
      rw [en]
      exact ih
    | false => rfl
def outD : Option Nat → D
  | some n => .int n
  | none => .non
theorem fw_ok' (a : Ad) (ls : List Str) (μ : List Ob) (hg : ∀ l ∈ ls, Gl l) (hl : ls.length < 1000) : ct__law_first_wrong a [.lst (ls.map D.str)] μ = .ok (outD (W 0 ls)) μ := by
  obtain ⟨o', e⟩ := fw_loop a μ ls [] none hg
  simp only [List.nil_append, List.length_nil] at e
  have hr : List.range' 0 ls.length = List.range ls.length := (List.range_eq_range' (n := ls.length)).symm
  rw [hr] at e
  refine pu_rt ⟨[], ?_⟩ (by cases W 0 ls <;> simp [outD, D.sc])
  rw [W_eq]
  have hR := range1_ok (fs := rCons (rCB lenD (rCons (rVar 0) rNil)) rNil) (δ := [some (.lst (ls.map D.str)), none]) (μ := μ) (μ1 := μ) (n := ls.length) (by simp) (by omega)
  unfold r_law_first_wrong
  rw [List.append_nil]
  show (rSeq (rFor _ _ (bFw a)) _) [some (.lst (ls.map D.str)), none] μ = _
  rw [s_rSeq, s_rFor, hR]
  show (match forL (.nm 1) (bFw a) ((List.range ls.length).map fun k => D.int (k : Nat)) [some (.lst (ls.map D.str)), none] μ with
    | .nx δ1 μ1 => _
    | r => r) = _
  rw [e]
  cases hw : Wl 0 ls with
  | some n => rfl
  | none =>
    by_cases h8 : ls.length < 8
    · have h8' : (ls.length : Int) < 8 := by omega
      simp [outD, h8, h8']
    · have h8' : ¬ (ls.length : Int) < 8 := by omega
      simp [outD, h8, h8']
end
end LX

namespace LX
open PySem L2 DL
noncomputable section
abbrev bRead (a : Ad) : RS := rSeq (rAsgD (gSt (rVar 2) (rVar 5)) (rCall 4 (ct_word_at a) (rCons (rVar 1) (rCons (rVar 3) (rCons (rVar 5) (rCons (rVar 6) rNil)))))) (rAug 3 (fun i j => i + j) (rC (.int 1)))
/-- how it stands in the loop of read -/
def sR (t : D) (LS : List Str) (n : Nat) (k : Nat) (pr : D) (o5 o6 : Option D) : Sl := [some t, some (.lst (LS.map D.str)), some (.loc n), some (.int k), some pr, o5, o6, none]
def encP (p : Str × List Str) : D := .tup [.str p.1, .tup (p.2.map D.str)]
theorem W_lack (k : Nat) (LS : List Str) (h : LS.length ≤ k) (hk : k < 8) : W k (LS.drop k) = some (k + 1) := by
  rw [List.drop_of_length_le h, W, if_pos hk]
theorem W_step (k : Nat) (LS : List Str) (l : Str) (h : LS[k]? = some l) : W k (LS.drop k) = if okLine k (Txt.split l " ") then W (k + 1) (LS.drop (k + 1)) else some (k + 1) := by
  have hk := (List.getElem?_eq_some_iff.mp h)
  rw [List.drop_eq_getElem_cons hk.1, W, hk.2]
theorem storeD_end {μ : List Ob} {ks : List Key} {xs : List D} {k : Str} {x : D} (hl : ks.length < 1000) : storeD (.loc μ.length) (.str k) x (μ ++ [.dct ks xs]) = .ok () (μ ++ [.dct (putKs ks (.inr k)) (putXs ks xs (.inr k) x)]) := by
  have h1 : (μ ++ [Ob.dct ks xs])[μ.length]? = some (.dct ks xs) := by simp
  have h2 : ∀ x y : Ob, (μ ++ [x]).set μ.length y = μ ++ [y] := fun x y => by simp
  unfold storeD
  simp only [h1]
  show (if ks.length < 16777216 then R.ok () ((μ ++ [Ob.dct ks xs]).set μ.length (Ob.dct (putKs ks (.inr k)) (putXs ks xs (.inr k) x))) else .bad) = _
  rw [if_pos (by omega), h2]
theorem read_row (a : Ad) (t pr : D) (LS : List Str) (hg : ∀ l ∈ LS, Gl l) (k : Nat) (p : Str × List Str) (hp : PWs[k]? = some p) (hk : k + 1 ≤ LS.length) (μ : List Ob) (ks : List Key) (xs : List D) (hl : ks.length < 1000) (ds : List D) (o5 o6 : Option D) :
    (∃ n δ', W (k + 1) (LS.drop (k + 1)) = some n ∧ forL (.tp [5, 6]) (bRead a) (encP p :: ds) (sR t LS μ.length (k + 1) pr o5 o6) (μ ++ [.dct ks xs]) = .exc (xl a n) δ' (μ ++ [.dct ks xs])) ∨
    (∃ w ∈ p.2, W (k + 1) (LS.drop (k + 1)) = W (k + 2) (LS.drop (k + 2)) ∧ k + 2 ≤ LS.length ∧ forL (.tp [5, 6]) (bRead a) (encP p :: ds) (sR t LS μ.length (k + 1) pr o5 o6) (μ ++ [.dct ks xs]) =
      forL (.tp [5, 6]) (bRead a) ds (sR t LS μ.length (k + 2) pr (some (.str p.1)) (some (.tup (p.2.map D.str)))) (μ ++ [.dct (putKs ks (.inr p.1)) (putXs ks xs (.inr p.1) (.str w))])) := by
  have hk6 : k < 6 := (List.getElem?_eq_some_iff.mp hp).1
  have hpo := pw_ok p (List.mem_of_getElem? hp)
  have go : ∀ r, bRead a (sR t LS μ.length (k + 1) pr (some (.str p.1)) (some (.tup (p.2.map D.str)))) (μ ++ [.dct ks xs]) = r → forL (.tp [5, 6]) (bRead a) (encP p :: ds) (sR t LS μ.length (k + 1) pr o5 o6) (μ ++ [.dct ks xs]) = (match r with
      | .nx δ2 μ2 => forL (.tp [5, 6]) (bRead a) ds δ2 μ2
      | .ct δ2 μ2 => forL (.tp [5, 6]) (bRead a) ds δ2 μ2
      | .bk δ2 μ2 => .nx δ2 μ2
      | r => r) := fun r hr => by
    subst hr
    rw [forL]
    rfl
  by_cases hlen : LS.length ≤ k + 1
  · left
    have e := word_at_no a LS (k + 1) p.1 p.2 (μ ++ [.dct ks xs]) hlen
    have en : LS.length = k + 1 := by omega
    refine ⟨k + 2, sR t LS μ.length (k + 1) pr (some (.str p.1)) (some (.tup (p.2.map D.str))), W_lack _ _ hlen (by omega), ?_⟩
    rw [go (.exc (xl a (k + 2 : Nat)) (sR t LS μ.length (k + 1) pr (some (.str p.1)) (some (.tup (p.2.map D.str)))) (μ ++ [.dct ks xs])) ?_]
    rw [en] at e
    have ec : ((k + 1 : Nat) : Int) + 1 = ((k + 2 : Nat) : Int) := by omega
    rw [ec] at e
    unfold bRead sR
    simp only [s_rSeq, s_rAsgD, s_rCall, s_rCons, s_rNil, s_rVar, List.getElem?_cons_zero, List.getElem?_cons_succ, R.ok_bind, List.length_cons, List.length_nil, if_true, e]
    rfl
  · have hlt : k + 1 < LS.length := by omega
    have hget : LS[k + 1]? = some LS[k + 1] := List.getElem?_eq_getElem hlt
    have gl := hg LS[k + 1] (List.getElem_mem hlt)
    have e := word_at_ok a LS (k + 1) LS[k + 1] p.1 p.2 (μ ++ [.dct ks xs]) hget gl hpo.1 hpo.2
    have ws := W_step (k + 1) LS LS[k + 1] hget
    have eo : okLine (k + 1) (Txt.split LS[k + 1] " ") = okW p.1 p.2 (Txt.split LS[k + 1] " ") := by unfold okLine; simp only [hp]
    rw [eo] at ws
    generalize Txt.split LS[k + 1] " " = sp at e ws
    cases hw : okW p.1 p.2 sp with
    | false =>
      left
      rw [hw] at ws e
      refine ⟨k + 2, sR t LS μ.length (k + 1) pr (some (.str p.1)) (some (.tup (p.2.map D.str))), ws, ?_⟩
      rw [go (.exc (xl a (k + 2 : Nat)) (sR t LS μ.length (k + 1) pr (some (.str p.1)) (some (.tup (p.2.map D.str)))) (μ ++ [.dct ks xs])) ?_]
      rw [if_neg Bool.false_ne_true] at e
      have ec : ((k + 1 : Nat) : Int) + 1 = ((k + 2 : Nat) : Int) := by omega
      rw [ec] at e
      unfold bRead sR
      simp only [s_rSeq, s_rAsgD, s_rCall, s_rCons, s_rNil, s_rVar, List.getElem?_cons_zero, List.getElem?_cons_succ, R.ok_bind, List.length_cons, List.length_nil, if_true, e]
      rfl
    | true =>
      right
      rw [hw, if_pos rfl] at ws e
      have hm : wd2 sp ∈ p.2 := by
        match sp, hw with
        | [x, y], hw =>
          simp [okW] at hw
          exact hw.2
        | [], hw => simp [okW] at hw
        | [_], hw => simp [okW] at hw
        | _ :: _ :: _ :: _, hw => simp [okW] at hw
      refine ⟨wd2 sp, hm, ws, hlt, ?_⟩
      rw [go (.nx (sR t LS μ.length (k + 2) pr (some (.str p.1)) (some (.tup (p.2.map D.str)))) (μ ++ [.dct (putKs ks (.inr p.1)) (putXs ks xs (.inr p.1) (.str (wd2 sp)))])) ?_]
      have es := storeD_end (μ := μ) (ks := ks) (xs := xs) (k := p.1) (x := .str (wd2 sp)) hl
      have ec : ((k + 1 : Nat) : Int) + 1 = ((k + 2 : Nat) : Int) := by omega
      unfold bRead sR
      simp only [s_rSeq, s_rAsgD, s_gSt, s_rCall, s_rCons, s_rNil, s_rVar, List.getElem?_cons_zero, List.getElem?_cons_succ, R.ok_bind, R.ok_st, List.length_cons, List.length_nil, if_true, e, es, s_rAug, s_rC, List.set_cons_zero, List.set_cons_succ, ec]
end
end LX

namespace LX
open PySem L2 DL
noncomputable section
theorem int_23 {y : Str} {μ : List Ob} (h : y ∈ (["2", "3"] : List Str)) : ∃ p : Int, 2 ≤ p ∧ p ≤ 3 ∧ intD [.str y] μ = .ok (.int p) μ := by
  have i2 : PySem.intText? "2" = some 2 := by decide +kernel
  have i3 : PySem.intText? "3" = some 3 := by decide +kernel
  have l2 : ("2" : Str).length ≤ 640 := by decide +kernel
  have l3 : ("3" : Str).length ≤ 640 := by decide +kernel
  simp only [List.mem_cons, List.not_mem_nil, or_false] at h
  rcases h with rfl | rfl
  · refine ⟨2, by decide, by decide, ?_⟩
    show (match PySem.intText? "2" with | some n => if ("2" : Str).length ≤ 640 then DL.R.ok (D.int n) μ else .bad | none => .bad) = _
    rw [i2]
    simp only
    rw [if_pos l2]
  · refine ⟨3, by decide, by decide, ?_⟩
    show (match PySem.intText? "3" with | some n => if ("3" : Str).length ≤ 640 then DL.R.ok (D.int n) μ else .bad | none => .bad) = _
    rw [i3]
    simp only
    rw [if_pos l3]
/-- the loop of read -/
theorem read_loop (a : Ad) (t pr : D) (LS : List Str) (hg : ∀ l ∈ LS, Gl l) (h1 : 1 ≤ LS.length) (μ : List Ob) :
    (∃ n δ' ks xs, W 1 (LS.drop 1) = some n ∧ forL (.tp [5, 6]) (bRead a) (PWs.map encP) (sR t LS μ.length 1 pr none none) (μ ++ [.dct [] []]) = .exc (xl a n) δ' (μ ++ [.dct ks xs])) ∨
    (∃ r o5 o6, RlOk r ∧ W 1 (LS.drop 1) = W 7 (LS.drop 7) ∧ 7 ≤ LS.length ∧ forL (.tp [5, 6]) (bRead a) (PWs.map encP) (sR t LS μ.length 1 pr none none) (μ ++ [.dct [] []]) = .nx (sR t LS μ.length 7 pr o5 o6) (μ ++ [.dct K6 [.str r.c, .str r.e, .str r.l, .str r.m, .str r.s, .str r.t]])) := by
  have hPW : PWs.map encP = [encP ("counts", ["comes", "fits"]), encP ("evening", ["looks", "sends"]), encP ("lost", ["again", "noted"]), encP ("remembers", ["number", "price", "thing"]), encP ("search", ["forgets", "keeps"]), encP ("tells", ["evening", "now"])] := rfl
  rw [hPW]
  rcases read_row a t pr LS hg 0 ("counts", ["comes", "fits"]) rfl h1 μ [] [] (by decide) [encP ("evening", ["looks", "sends"]), encP ("lost", ["again", "noted"]), encP ("remembers", ["number", "price", "thing"]), encP ("search", ["forgets", "keeps"]), encP ("tells", ["evening", "now"])] none none with ⟨n, δ', w, e⟩ | ⟨w1, m1, W1, h2, e1⟩
  · exact .inl ⟨n, δ', _, _, w, e⟩
  simp only [putKs, putXs, hk1, Bool.false_eq_true, if_false, List.nil_append, List.cons_append] at e1
  rcases read_row a t pr LS hg 1 ("evening", ["looks", "sends"]) rfl h2 μ [.inr "counts"] [.str w1] (by simp) [encP ("lost", ["again", "noted"]), encP ("remembers", ["number", "price", "thing"]), encP ("search", ["forgets", "keeps"]), encP ("tells", ["evening", "now"])] _ _ with ⟨n, δ', w, e⟩ | ⟨w2, m2, W2, h3, e2⟩
  · exact .inl ⟨n, δ', _, _, W1.trans w, e1.trans e⟩
  simp only [putKs, putXs, hk2, Bool.false_eq_true, if_false, List.nil_append, List.cons_append] at e2
  rcases read_row a t pr LS hg 2 ("lost", ["again", "noted"]) rfl h3 μ [.inr "counts", .inr "evening"] [.str w1, .str w2] (by simp) [encP ("remembers", ["number", "price", "thing"]), encP ("search", ["forgets", "keeps"]), encP ("tells", ["evening", "now"])] _ _ with ⟨n, δ', w, e⟩ | ⟨w3, m3, W3, h4, e3⟩
  · exact .inl ⟨n, δ', _, _, W1.trans (W2.trans w), e1.trans (e2.trans e)⟩
  simp only [putKs, putXs, hk3, Bool.false_eq_true, if_false, List.nil_append, List.cons_append] at e3
  rcases read_row a t pr LS hg 3 ("remembers", ["number", "price", "thing"]) rfl h4 μ [.inr "counts", .inr "evening", .inr "lost"] [.str w1, .str w2, .str w3] (by simp) [encP ("search", ["forgets", "keeps"]), encP ("tells", ["evening", "now"])] _ _ with ⟨n, δ', w, e⟩ | ⟨w4, m4, W4, h5, e4⟩
  · exact .inl ⟨n, δ', _, _, W1.trans (W2.trans (W3.trans w)), e1.trans (e2.trans (e3.trans e))⟩
  simp only [putKs, putXs, hk4, Bool.false_eq_true, if_false, List.nil_append, List.cons_append] at e4
  rcases read_row a t pr LS hg 4 ("search", ["forgets", "keeps"]) rfl h5 μ [.inr "counts", .inr "evening", .inr "lost", .inr "remembers"] [.str w1, .str w2, .str w3, .str w4] (by simp) [encP ("tells", ["evening", "now"])] _ _ with ⟨n, δ', w, e⟩ | ⟨w5, m5, W5, h6, e5⟩
  · exact .inl ⟨n, δ', _, _, W1.trans (W2.trans (W3.trans (W4.trans w))), e1.trans (e2.trans (e3.trans (e4.trans e)))⟩
  simp only [putKs, putXs, hk5, Bool.false_eq_true, if_false, List.nil_append, List.cons_append] at e5
  rcases read_row a t pr LS hg 5 ("tells", ["evening", "now"]) rfl h6 μ [.inr "counts", .inr "evening", .inr "lost", .inr "remembers", .inr "search"] [.str w1, .str w2, .str w3, .str w4, .str w5] (by simp) [] _ _ with ⟨n, δ', w, e⟩ | ⟨w6, m6, W6, h7, e6⟩
  · exact .inl ⟨n, δ', _, _, W1.trans (W2.trans (W3.trans (W4.trans (W5.trans w)))), e1.trans (e2.trans (e3.trans (e4.trans (e5.trans e))))⟩
  simp only [putKs, putXs, hk6, Bool.false_eq_true, if_false, List.nil_append, List.cons_append] at e6
  refine .inr ⟨⟨w1, w2, w3, w4, w5, w6⟩, some (.str "tells"), some (.tup ((["evening", "now"] : List Str).map D.str)), ⟨m1, m2, m3, m4, m5, m6⟩, W1.trans (W2.trans (W3.trans (W4.trans (W5.trans W6)))), h7, ?_⟩
  rw [e1, e2, e3, e4, e5, e6]
  rfl
/-- what read makes of lines -/
theorem read_ok (a : Ad) (t : Str) (LS : List Str) (μ : List Ob) (hg : ∀ l ∈ LS, Gl l) (h1 : 1 ≤ LS.length) (hs : ∀ μ', splitD (.str t) [.str "\n"] μ' = .ok (.lst (LS.map D.str)) μ') :
    (∃ n, W 0 LS = some n ∧ ct_read a [.str t] μ = .exc (xl a n) μ) ∨ (W 0 LS = none ∧ ∃ d, ct_read a [.str t] μ = .ok d μ) := by
  have hget : LS[0]? = some LS[0] := List.getElem?_eq_getElem (by omega)
  have gl := hg LS[0] (List.getElem_mem (by omega))
  have e0 := word_at_ok a LS 0 LS[0] "prices" ["2", "3"] (μ ++ [.dct [] []]) hget gl ok_prices p23
  have w0 := W_step 0 LS LS[0] hget
  rw [List.drop_zero] at w0
  have eo : okLine 0 (Txt.split LS[0] " ") = okW "prices" ["2", "3"] (Txt.split LS[0] " ") := rfl
  rw [eo] at w0
  generalize Txt.split LS[0] " " = sp at e0 w0
  let δ0 : Sl := [some (.str t), none, none, none, none, none, none, none]
  let δ1 : Sl := [some (.str t), some (.lst (LS.map D.str)), some (.loc μ.length), some (.int 1), none, none, none, none]
  have hr : ct_read a = ctT 7 (r_read a) := rfl
  have u0 : rPar3 1 2 3 (rCons (rMt isStr splitD (rVar 0) (rCons (rC (.str "\n")) rNil)) (rCons rDnew (rCons (rC (.int 1)) rNil))) δ0 μ = .nx δ1 (μ ++ [.dct [] []]) := by
    simp [isStr, hs, δ0, δ1]
  have hP : pairsP ((kv_PARTS a).map (·.1)) xs_PARTS = PWs.map encP := rfl
  cases hw : okW "prices" ["2", "3"] sp with
  | false =>
    rw [hw] at w0 e0
    refine .inl ⟨1, w0, ?_⟩
    refine pu_ex ⟨δ1, [.dct [] []], ?_⟩ (by simp [xl, scL, D.sc])
    have e0' : ct_word_at a [.lst (LS.map D.str), .int 0, .str "prices", d_PRICES a] (μ ++ [.dct [] []]) = .exc (xl a 1) (μ ++ [.dct [] []]) := e0
    show r_read a δ0 μ = _
    unfold r_read
    rw [s_rSeq, u0]
    simp only [δ1, s_rSeq, s_rSet, s_rCB, s_rCons, s_rCall, s_rNil, s_rVar, s_rC, List.getElem?_cons_zero, List.getElem?_cons_succ, R.ok_bind, List.length_cons, List.length_nil, if_true, e0']
    rfl
  | true =>
    rw [hw, if_pos rfl] at w0 e0
    have hm : wd2 sp ∈ (["2", "3"] : List Str) := by
      match sp, hw with
      | [x, y], hw =>
        simp only [okW, Bool.and_eq_true, decide_eq_true_eq] at hw
        exact hw.2
      | [], hw => simp [okW] at hw
      | [_], hw => simp [okW] at hw
      | _ :: _ :: _ :: _, hw => simp [okW] at hw
    obtain ⟨p, p2, p3, ei⟩ := int_23 (μ := μ ++ [.dct [] []]) hm
    have e0' : ct_word_at a [.lst (LS.map D.str), .int 0, .str "prices", d_PRICES a] (μ ++ [.dct [] []]) = .ok (.str (wd2 sp)) (μ ++ [.dct [] []]) := e0
    have u1 : rSet 4 (rCB intD (rCons (rCall 4 (ct_word_at a) (rCons (rVar 1) (rCons (rC (.int 0)) (rCons (rC (.str "prices")) (rCons (rC (d_PRICES a)) rNil))))) rNil)) δ1 (μ ++ [.dct [] []]) = .nx (sR (.str t) LS μ.length 1 (.int p) none none) (μ ++ [.dct [] []]) := by
      simp only [δ1, s_rSet, s_rCB, s_rCons, s_rCall, s_rNil, s_rVar, s_rC, List.getElem?_cons_zero, List.getElem?_cons_succ, R.ok_bind, R.ok_st, List.length_cons, List.length_nil, if_true, e0', ei]
      rfl
    have hPP : rP a.cPARTS (pairsP ((kv_PARTS a).map (·.1)) xs_PARTS) (rC (d_PARTS a)) (sR (.str t) LS μ.length 1 (.int p) none none) (μ ++ [.dct [] []]) = .ok (PWs.map encP) (μ ++ [.dct [] []]) := if_pos rfl
    rcases read_loop a (.str t) (.int p) LS hg h1 μ with ⟨n, δ', ks, xs, w, e⟩ | ⟨r, o5, o6, Q, Wq, h7, e⟩
    · refine .inl ⟨n, w0.trans w, ?_⟩
      refine pu_ex ⟨δ', [.dct ks xs], ?_⟩ (by simp [xl, scL, D.sc])
      show r_read a δ0 μ = _
      unfold r_read
      rw [s_rSeq, u0]
      show rSeq _ _ δ1 (μ ++ [.dct [] []]) = _
      rw [s_rSeq, u1]
      show rSeq (rFor _ _ (bRead a)) _ (sR (.str t) LS μ.length 1 (.int p) none none) (μ ++ [.dct [] []]) = _
      rw [s_rSeq, s_rFor, hPP]
      show (match forL (.tp [5, 6]) (bRead a) (PWs.map encP) (sR (.str t) LS μ.length 1 (.int p) none none) (μ ++ [.dct [] []]) with
        | .nx δ1 μ1 => _
        | r => r) = _
      rw [e]
    · generalize hμ2 : μ ++ [.dct K6 [.str r.c, .str r.e, .str r.l, .str r.m, .str r.s, .str r.t]] = μ2 at e
      have tail : ∀ R, (rSeq (rSet 7 (rCall 2 (ct_words_at a) (rCons (rVar 1) (rCons (rVar 3) rNil)))) (rSeq (rIfS (rT (rBin gtD (rCB lenD (rCons (rVar 1) rNil)) (rBin addD (rVar 3) (rC (.int 1))))) (rRaise a.kInvalidLine ["line"] (rCons (rBin addD (rVar 3) (rC (.int 2))) rNil)) (fun δ μ => .nx δ μ))
          (rRet (rMake a.kBook 3 (cm_Book a) (rCons (rVar 4) (rCons (rFrz (rVar 2)) (rCons (rVar 7) rNil))))))) (sR (.str t) LS μ.length 7 (.int p) o5 o6) μ2 = R → r_read a δ0 μ = R := fun R hR => by
        subst hR
        unfold r_read
        rw [s_rSeq, u0]
        show rSeq _ _ δ1 (μ ++ [.dct [] []]) = _
        rw [s_rSeq, u1]
        show rSeq (rFor _ _ (bRead a)) _ (sR (.str t) LS μ.length 1 (.int p) none none) (μ ++ [.dct [] []]) = _
        rw [s_rSeq, s_rFor, hPP]
        show (match forL (.tp [5, 6]) (bRead a) (PWs.map encP) (sR (.str t) LS μ.length 1 (.int p) none none) (μ ++ [.dct [] []]) with
          | .nx δ1 μ1 => _
          | r => r) = _
        rw [e]
      by_cases hlen : LS.length ≤ 7
      · have e7 := words_at_no a LS 7 μ2 hlen
        have en : LS.length = 7 := by omega
        refine .inl ⟨8, w0.trans (Wq.trans (W_lack 7 LS hlen (by decide))), ?_⟩
        refine pu_ex ⟨sR (.str t) LS μ.length 7 (.int p) o5 o6, [.dct K6 [.str r.c, .str r.e, .str r.l, .str r.m, .str r.s, .str r.t]], ?_⟩ (by simp [xl, scL, D.sc])
        rw [hμ2]
        refine tail _ ?_
        rw [en] at e7
        have e7' : ct_words_at a [.lst (LS.map D.str), .int ((7 : Nat) : Int)] μ2 = .exc (xl a (8 : Nat)) μ2 := e7
        unfold sR
        simp only [s_rSeq, s_rSet, s_rCall, s_rCons, s_rNil, s_rVar, List.getElem?_cons_zero, List.getElem?_cons_succ, R.ok_bind, List.length_cons, List.length_nil, if_true, e7']
        rfl
      · have hlt : 7 < LS.length := by omega
        have hget7 : LS[7]? = some LS[7] := List.getElem?_eq_getElem hlt
        have gl7 := hg LS[7] (List.getElem_mem hlt)
        have e7 := words_at_ok a LS 7 LS[7] μ2 hget7 gl7
        have w7 := W_step 7 LS LS[7] hget7
        have eo7 : okLine 7 (Txt.split LS[7] " ") = okL (Txt.split LS[7] " ") := rfl
        rw [eo7] at w7
        generalize Txt.split LS[7] " " = sp7 at e7 w7
        cases hw7 : okL sp7 with
        | false =>
          rw [hw7] at e7 w7
          refine .inl ⟨8, w0.trans (Wq.trans w7), ?_⟩
          refine pu_ex ⟨sR (.str t) LS μ.length 7 (.int p) o5 o6, [.dct K6 [.str r.c, .str r.e, .str r.l, .str r.m, .str r.s, .str r.t]], ?_⟩ (by simp [xl, scL, D.sc])
          rw [hμ2]
          refine tail _ ?_
          have e7' : ct_words_at a [.lst (LS.map D.str), .int ((7 : Nat) : Int)] μ2 = .exc (xl a (8 : Nat)) μ2 := e7
          unfold sR
          simp only [s_rSeq, s_rSet, s_rCall, s_rCons, s_rNil, s_rVar, List.getElem?_cons_zero, List.getElem?_cons_succ, R.ok_bind, List.length_cons, List.length_nil, if_true, e7']
          rfl
        | true =>
          rw [hw7, if_pos rfl] at e7 w7
          have hq : ∃ q : Str → Bool, D.tup (sp7.tail.map D.str) = wordsD q := by
            match sp7, hw7 with
            | x :: l, hw7 =>
              simp only [okL, Bool.and_eq_true, decide_eq_true_eq] at hw7
              exact ⟨fun w => decide (w ∈ l), by unfold wordsD wordsL; rw [hw7.2]; rfl⟩
            | [], hw7 => simp [okL] at hw7
          obtain ⟨q, hq⟩ := hq
          rw [hq] at e7
          have e7' : ct_words_at a [.lst (LS.map D.str), .int ((7 : Nat) : Int)] μ2 = .ok (wordsD q) μ2 := e7
          by_cases h8 : LS.length ≤ 8
          · have en : LS.length = 8 := by omega
            have w8 : W 8 (LS.drop 8) = none := by rw [List.drop_of_length_le h8]; rfl
            refine .inr ⟨w0.trans (Wq.trans (w7.trans w8)), bookD a p (ruleD r) (wordsD q), ?_⟩
            refine pu_rt ⟨[.dead, .dead], tail _ ?_⟩ (by simp [D.sc, bookD, scL, ruleD, wordsD, sc_strs])
            have hl2 : μ2[μ.length]? = some (.dct K6 [.str r.c, .str r.e, .str r.l, .str r.m, .str r.s, .str r.t]) := by rw [← hμ2]; simp
            have hs2 : μ2.set μ.length .dead = μ ++ [.dead] := by rw [← hμ2]; simp
            have mk := make_ok a (q := q) (δ := [some (.str t), some (.lst (LS.map D.str)), some (.loc μ.length), some (.int (7 : Nat)), some (.int p), o5, o6, some (wordsD q)]) (μ := μ2) (μ1 := μ ++ [.dead]) (fs := rCons (rVar 4) (rCons (rFrz (rVar 2)) (rCons (rVar 7) rNil))) Q ⟨p2, p3⟩ (by
              simp only [s_rCons, s_rFrz, s_rVar, s_rNil, List.getElem?_cons_zero, List.getElem?_cons_succ, R.ok_bind, hl2, hs2]
              rfl)
            have hn : ¬ ((7 : Nat) : Int) + 1 < ((LS.length : Nat) : Int) := by omega
            have hgt : rIfS (rT (rBin gtD (rCB lenD (rCons (rVar 1) rNil)) (rBin addD (rVar 3) (rC (.int 1))))) (rRaise a.kInvalidLine ["line"] (rCons (rBin addD (rVar 3) (rC (.int 2))) rNil)) (fun δ μ => .nx δ μ) [some (.str t), some (.lst (LS.map D.str)), some (.loc μ.length), some (.int (7 : Nat)), some (.int p), o5, o6, some (wordsD q)] μ2 = .nx [some (.str t), some (.lst (LS.map D.str)), some (.loc μ.length), some (.int (7 : Nat)), some (.int p), o5, o6, some (wordsD q)] μ2 := by
              simp [en]
            unfold sR
            simp only [s_rSeq, s_rSet, s_rCall, s_rCons, s_rNil, s_rVar, List.getElem?_cons_zero, List.getElem?_cons_succ, R.ok_bind, R.ok_st, List.length_cons, List.length_nil, if_true, e7', List.set_cons_zero, List.set_cons_succ]
            rw [hgt]
            simp only []
            rw [s_rRet, mk]
            simp
          · have w8 : W 8 (LS.drop 8) = some 9 := by
              have h9 : LS[8]? = some LS[8] := List.getElem?_eq_getElem (by omega)
              rw [W_step 8 LS LS[8] h9]
              rfl
            refine .inl ⟨9, w0.trans (Wq.trans (w7.trans w8)), ?_⟩
            refine pu_ex ⟨[some (.str t), some (.lst (LS.map D.str)), some (.loc μ.length), some (.int (7 : Nat)), some (.int p), o5, o6, some (wordsD q)], [.dct K6 [.str r.c, .str r.e, .str r.l, .str r.m, .str r.s, .str r.t]], ?_⟩ (by simp [xl, scL, D.sc])
            rw [hμ2]
            refine tail _ ?_
            have hgt : rIfS (rT (rBin gtD (rCB lenD (rCons (rVar 1) rNil)) (rBin addD (rVar 3) (rC (.int 1))))) (rRaise a.kInvalidLine ["line"] (rCons (rBin addD (rVar 3) (rC (.int 2))) rNil)) (fun δ μ => .nx δ μ) [some (.str t), some (.lst (LS.map D.str)), some (.loc μ.length), some (.int (7 : Nat)), some (.int p), o5, o6, some (wordsD q)] μ2 = .exc (xl a (9 : Nat)) [some (.str t), some (.lst (LS.map D.str)), some (.loc μ.length), some (.int (7 : Nat)), some (.int p), o5, o6, some (wordsD q)] μ2 := by
              have h8' : 8 < LS.length := by omega
              have h8i : (8 : Int) < (LS.length : Int) := by omega
              simp [rRaise, xl, h8', h8i]
            unfold sR
            simp only [s_rSeq, s_rSet, s_rCall, s_rCons, s_rNil, s_rVar, List.getElem?_cons_zero, List.getElem?_cons_succ, R.ok_bind, R.ok_st, List.length_cons, List.length_nil, if_true, e7', List.set_cons_zero, List.set_cons_succ]
            rw [hgt]
end
end LX

namespace LX
open PySem L2 DL
noncomputable section
theorem answer_ok (a : Ad) (t : Str) (LS : List Str) (μ : List Ob) (hg : ∀ l ∈ LS, Gl l) (h1 : 1 ≤ LS.length) (hs : ∀ μ', splitD (.str t) [.str "\n"] μ' = .ok (.lst (LS.map D.str)) μ') : ct__law_answer a [.str t] μ = .ok (outD (W 0 LS)) μ := by
  rcases read_ok a t LS μ hg h1 hs with ⟨n, w, e⟩ | ⟨w, d, e⟩
  · refine pu_rt ⟨[], ?_⟩ (by rw [w]; simp [outD, D.sc])
    have g : gIs (okOf a.kInvalidLine) (gFld a.kInvalidLine "line") (xl a n) = some (.int n) := by
      unfold gIs gFld xl okOf
      simp [lookD]
    have m : mOf [(a.kInvalidLine, true)] (xl a n).cls = some true := by
      unfold mOf xl
      simp [List.lookup]
    have hx : (xl a n).cls = .ref a.kInvalidLine := rfl
    unfold r_law_answer
    rw [w]
    simp [rTry, e, handle, m, sSet, g, unS, outD]
  · refine pu_rt ⟨[], ?_⟩ (by rw [w]; simp [outD, D.sc])
    unfold r_law_answer
    rw [w]
    simp [rTry, e, outD]
theorem kb_nd : kitB "NoneType" "dict" = some false := by decide +kernel
theorem kb_nt : kitB "NoneType" "tuple" = some false := by decide +kernel
theorem kb_nl : kitB "NoneType" "list" = some false := by decide +kernel
theorem kb_ns : kitB "NoneType" "str" = some false := by decide +kernel
theorem kb_id : kitB "int" "dict" = some false := by decide +kernel
theorem kb_it : kitB "int" "tuple" = some false := by decide +kernel
theorem kb_il : kitB "int" "list" = some false := by decide +kernel
theorem kb_is : kitB "int" "str" = some false := by decide +kernel
theorem alike_ok (a : Ad) (x : Option Nat) (μ : List Ob) : ct__law_alike a [outD x, outD x] μ = .ok (.bl true) μ := by
  refine pu_rt ⟨[], ?_⟩ (by simp [D.sc])
  cases x with
  | none =>
    unfold r_law_alike outD
    simp [isiD, isT, isT2, rIsTs, D.tyS, kb_nd, kb_nt, kb_nl, kb_ns, isN, eqD, D.okd, D.eqb]
  | some n =>
    unfold r_law_alike outD
    simp [isiD, isT, isT2, rIsTs, D.tyS, kb_id, kb_it, kb_il, kb_is, kb_int, kb_ib, isN, eqD, D.okd, D.eqb]
end
end LX

namespace LX
open PySem L2 DL
noncomputable section
theorem slen (x y : Str) : (x ++ y).length = x.length + y.length := Array.size_append
def subs {α : Type} : List α → List (List α)
  | [] => [[]]
  | x :: xs => subs xs ++ (subs xs).map (x :: ·)
theorem filt_sub {α : Type} (q : α → Bool) : ∀ xs : List α, xs.filter q ∈ subs xs
  | [] => by simp [subs]
  | x :: xs => by
    have ih := filt_sub q xs
    rw [List.filter_cons, subs, List.mem_append]
    cases q x with
    | true => exact .inr (List.mem_map.mpr ⟨_, ih, rfl⟩)
    | false => exact .inl ih
def last (F : List Str) : Str := Txt.join " " ("words" :: F)
def ln (k w : Str) : Str := k ++ " " ++ w
def OD : List Str := ["", "prices 4", "prices", "prices 2 3", "counts fits ", "lost", "tells two", "search keeps keeps", " lost again", "words pause lose", "words go", "words ", "words", "evening  looks", "prices 3", "tells now", "word lose"]
/-- all lines that come -/
def LSET : List Str := "prices 2" :: (OD ++ PWs.flatMap (fun p => p.2.map (ln p.1)) ++ (subs W6).map last)
def glB (l : Str) : Bool := decide (l.length ≤ 1000) && (!(TL.tl l).contains 10 && ((Txt.split l " ").all PyData.strOk && !(Txt.split l " ").isEmpty))
theorem gl_of {ws : List Str} (h : ws.all glB = true) : ∀ w ∈ ws, Gl w := fun w hw => by
  have := List.all_eq_true.mp h w hw
  simp only [glB, Bool.and_eq_true, decide_eq_true_eq, Bool.not_eq_true', List.contains_eq_mem, decide_eq_false_iff_not, List.all_eq_true, List.isEmpty_eq_false_iff] at this
  exact ⟨this.1, this.2.1, this.2.2.1, this.2.2.2⟩
theorem lset_gl : ∀ l ∈ LSET, Gl l := gl_of (by decide +kernel)
theorem joinL_len (S : List Nat) : ∀ ps : List (List Nat), (TL.joinL S ps).length ≤ (ps.map (·.length)).sum + ps.length * S.length
  | [] => by simp [TL.joinL]
  | [p] => by simp [TL.joinL]
  | p :: r :: ps => by
    have ih := joinL_len S (r :: ps)
    rw [TL.joinL, List.length_append, List.length_append, List.map_cons, List.sum_cons, List.length_cons, Nat.succ_mul]
    omega
theorem tl_len (x : Str) : (TL.tl x).length = x.length := Array.length_toList
theorem join_len (y : Str) (ps : List Str) : (Txt.join y ps).length ≤ (ps.map (·.length)).sum + ps.length * y.length := by
  rw [← tl_len, TL.join_eq, TL.tl_join]
  have := joinL_len (TL.tl y) (ps.map TL.tl)
  rw [List.map_map, List.length_map, tl_len] at this
  have e : ((fun x => x.length) ∘ TL.tl : Str → Nat) = fun x => x.length := funext fun x => tl_len x
  rw [e] at this
  exact this
theorem sum_len {b : Nat} : ∀ {ls : List Str}, (∀ l ∈ ls, l.length ≤ b) → (ls.map (·.length)).sum ≤ b * ls.length
  | [], _ => by simp
  | l :: ls, h => by
    have h1 := h l List.mem_cons_self
    have h2 := sum_len fun x hx => h x (List.mem_cons_of_mem _ hx)
    rw [List.map_cons, List.sum_cons, List.length_cons, Nat.mul_succ]
    omega
theorem nl_len : ("\n" : Str).length = 1 := by decide +kernel
theorem sp_len : (" " : Str).length = 1 := by decide +kernel
theorem nl0 : (("\n" : Str).length == 0) = false := by decide +kernel
theorem text_split {LS : List Str} (hg : ∀ l ∈ LS, Gl l) (h1 : 1 ≤ LS.length) (h2 : LS.length ≤ 1000) (μ : List Ob) : splitD (.str (Txt.join "\n" LS)) [.str "\n"] μ = .ok (.lst (LS.map D.str)) μ := by
  have hl : (Txt.join "\n" LS).length ≤ 1001000 := by
    have a1 := join_len "\n" LS
    have a2 := sum_len fun l hl => (hg l hl).len
    rw [nl_len] at a1
    omega
  show (if (("\n" : Str).length == 0) = false ∧ (Txt.join "\n" LS).length + 2 ≤ 16777216 then DL.R.ok (D.lst ((Txt.split (Txt.join "\n" LS) "\n").map D.str)) μ else .bad) = _
  rw [if_pos ⟨nl0, by omega⟩]
  have : Txt.split (Txt.join "\n" LS) "\n" = LS := TL.split_join (s := 10) (S := []) (by decide +kernel) (by decide +kernel) (by intro h; rw [h] at h1; simp at h1) fun l hl => (hg l hl).nl
  rw [this]
theorem strs_map : ∀ ws : List Str, strsD (ws.map D.str) = some ws
  | [] => rfl
  | w :: ws => by
    rw [List.map_cons, strsD, strs_map ws]
    rfl
theorem join_ok {s : Str} {LS : List Str} (hs : s.length = 1) (hg : ∀ l ∈ LS, l.length ≤ 1000) (h2 : LS.length ≤ 1000) (μ : List Ob) : joinD (.str s) [.lst (LS.map D.str)] μ = .ok (.str (Txt.join s LS)) μ := by
  have a2 := sum_len hg
  have e : joinD (.str s) [.lst (LS.map D.str)] μ = (match strsD (LS.map D.str) with
    | some ys => if (List.map (fun z : Str => z.length) ys).sum + List.length ys * s.length ≤ 16777216 then DL.R.ok (D.str (Txt.join s ys)) μ else .bad
    | none => .bad) := rfl
  rw [e, strs_map]
  simp only
  rw [if_pos (by rw [hs]; omega)]
/-- a rule's word for a part -/
def rlw (r : Rl) (k : Str) : Str := match lookD K6 [.str r.c, .str r.e, .str r.l, .str r.m, .str r.s, .str r.t] (.inr k) with
  | some (.str w) => w
  | _ => ""
theorem rlw_at {r : Rl} (h : RlOk r) : ∀ p ∈ PWs, lookD K6 [.str r.c, .str r.e, .str r.l, .str r.m, .str r.s, .str r.t] (.inr p.1) = some (.str (rlw r p.1)) ∧ rlw r p.1 ∈ p.2 := fun p hp => by
  obtain ⟨w, h1, h2⟩ := h.at p hp
  have : rlw r p.1 = w := by unfold rlw; rw [h1]
  rw [this]
  exact ⟨h1, h2⟩
theorem pw_len : ∀ p ∈ PWs, p.1.length ≤ 20 ∧ ∀ x ∈ p.2, x.length ≤ 20 := by decide +kernel
theorem w6_len : ∀ x : Str, x ∈ (("words" : Str) :: W6) → x.length ≤ 20 := by decide +kernel
/-- the first lines -/
def base (r : Rl) (q : Str → Bool) : List Str := "prices 2" :: (PWs.map (fun p => ln p.1 (rlw r p.1)) ++ [last (wordsL q)])
theorem base_in {r : Rl} (h : RlOk r) (q : Str → Bool) : ∀ l ∈ base r q, l ∈ LSET := fun l hl => by
  unfold base at hl
  unfold LSET
  rcases List.mem_cons.mp hl with rfl | hl
  · exact List.mem_cons_self
  · refine List.mem_cons_of_mem _ ?_
    rcases List.mem_append.mp hl with hl | hl
    · obtain ⟨p, hp, rfl⟩ := List.mem_map.mp hl
      refine List.mem_append_left _ (List.mem_append_right _ (List.mem_flatMap.mpr ⟨p, hp, List.mem_map.mpr ⟨_, (rlw_at h p hp).2, rfl⟩⟩))
    · rw [List.mem_singleton.mp hl]
      exact List.mem_append_right _ (List.mem_map.mpr ⟨_, filt_sub q W6, rfl⟩)
end
end LX

namespace LX
open PySem L2 DL
noncomputable section
theorem add_lsts {xs ys : List Str} {μ : List Ob} (h : xs.length + ys.length ≤ 16777216) : addV (.lst (xs.map D.str)) (.lst (ys.map D.str)) μ = .ok (.lst ((xs ++ ys).map D.str)) μ := by
  rw [addV_lst, if_pos (by rw [List.length_map, List.length_map]; exact h), List.map_append]
theorem od_in : ∀ l ∈ OD, l ∈ LSET := fun l hl => by
  unfold LSET
  exact List.mem_cons_of_mem _ (List.mem_append_left _ (List.mem_append_left _ hl))
/-- the lines as they stand: all known, some -/
structure Lok (ls : List Str) : Prop where
  mem : ∀ l ∈ ls, l ∈ LSET
  pos : 1 ≤ ls.length
abbrev bChg (a : Ad) : RS := rSeq (rPar 7 8 (rCons (rCall 2 (ct__law_next a) (rCons (rVar 1) (rCons (rBin addD (rCB lenD (rCons (rVar 5) rNil)) (rC (.int 1))) rNil))) (rCons (rCall 2 (ct__law_next a) (rCons (rVar 1) (rCons (rC (.int 4)) rNil))) rNil)))
    (rIfS (rT (rBin eqD (rVar 8) (rC (.int 0)))) (rSet 5 (rBin addD (rBin addD (rSlice (rVar 5) rNone (rSome (rVar 7))) (rLst (rCons (rCall 2 (ct__law_pick a) (rCons (rVar 1) (rCons (rVar 2) rNil))) rNil))) (rSlice (rVar 5) (rSome (rVar 7)) rNone))) (rIfS (rT (rBin eqD (rVar 8) (rC (.int 1)))) (rSet 5 (rBin addD (rBin addD (rSlice (rVar 5) rNone (rSome (rVar 7))) (rLst (rCons (rCall 2 (ct__law_pick a) (rCons (rVar 1) (rCons (rVar 2) rNil))) rNil))) (rSlice (rVar 5) (rSome (rBin addD (rVar 7) (rC (.int 1)))) rNone))) (rSet 5 (rIf (rAndT (rT (rBin eqD (rVar 8) (rC (.int 2)))) (rT (rBin gtD (rCB lenD (rCons (rVar 5) rNil)) (rC (.int 1))))) (rBin addD (rSlice (rVar 5) rNone (rSome (rVar 7))) (rSlice (rVar 5) (rSome (rBin addD (rVar 7) (rC (.int 1)))) rNone)) (rBin addD (rSlice (rVar 5) (rSome (rVar 7)) rNone) (rSlice (rVar 5) rNone (rSome (rVar 7))))))))
def sC (sc o3 o4 : Option D) (ls : List Str) (o6 o7 o8 o9 : Option D) : Sl := [sc, some (.loc 1), some (.lst (OD.map D.str)), o3, o4, some (.lst (ls.map D.str)), o6, o7, o8, o9]
theorem mem_take {ls : List Str} {n : Nat} (h : ∀ l ∈ ls, l ∈ LSET) : ∀ l ∈ ls.take n, l ∈ LSET := fun l hl => h l (List.mem_of_mem_take hl)
theorem mem_drop {ls : List Str} {n : Nat} (h : ∀ l ∈ ls, l ∈ LSET) : ∀ l ∈ ls.drop n, l ∈ LSET := fun l hl => h l (List.mem_of_mem_drop hl)
theorem slice_to (ls : List Str) (n : Nat) (μ : List Ob) : sliceV (.lst (ls.map D.str)) none (some (n : Int)) μ = .ok (.lst ((ls.take n).map D.str)) μ := by
  rw [sliceV_lst, cut_to, List.map_take]
theorem slice_from (ls : List Str) (n : Nat) (μ : List Ob) : sliceV (.lst (ls.map D.str)) (some (n : Int)) none μ = .ok (.lst ((ls.drop n).map D.str)) μ := by
  rw [sliceV_lst, cut_from, List.map_drop]
theorem slice_from1 (ls : List Str) (n : Nat) (μ : List Ob) : sliceV (.lst (ls.map D.str)) (some ((n : Int) + 1)) none μ = .ok (.lst ((ls.drop (n + 1)).map D.str)) μ := slice_from ls (n + 1) μ
theorem one_str (w : Str) : [D.str w] = ([w] : List Str).map D.str := rfl
theorem chg_ok (a : Ad) (s : Src) (sc o3 o4 o6 o7 o8 o9 : Option D) (ls : List Str) (L : Lok ls) (hl : ls.length ≤ 100) : ∃ ls' s' o7' o8', Lok ls' ∧ ls'.length ≤ ls.length + 1 ∧ bChg a (sC sc o3 o4 ls o6 o7 o8 o9) (src s) = .nx (sC sc o3 o4 ls' o6 o7' o8' o9) (src s') := by
  have n1 := next_ok a s [] (ls.length + 1) (by omega) (by omega)
  have n2 := next_ok a (s.next (ls.length + 1)).2 [] 4 (by omega) (by omega)
  obtain ⟨r0, r1⟩ := next_rng s (cap := (ls.length : Int) + 1) (by omega)
  obtain ⟨q0, q1⟩ := next_rng (s.next ((ls.length : Int) + 1)).2 (cap := 4) (by omega)
  generalize (s.next ((ls.length : Int) + 1)).2 = s1 at n1 n2 q0 q1
  generalize (s.next ((ls.length : Int) + 1)).1 = at_ at n1 r0 r1
  generalize (s1.next 4).2 = s2 at n2
  generalize (s1.next 4).1 = kd at n2 q0 q1
  obtain ⟨n, rfl⟩ : ∃ n : Nat, at_ = n := ⟨at_.toNat, by omega⟩
  have hn : n ≤ ls.length := by omega
  have pk := wd_ok a s2 [] OD (by decide) (by decide)
  have hm := wd_mem s2 (ws := OD) (by decide)
  generalize (s2.wd OD).1 = od at pk hm
  generalize (s2.wd OD).2 = s3 at pk
  simp only [List.append_nil] at n1 n2 pk
  have ht := List.length_take (i := n) (l := ls)
  have hd := List.length_drop (i := n) (l := ls)
  have hd1 := List.length_drop (i := n + 1) (l := ls)
  have hpar : rPar 7 8 (rCons (rCall 2 (ct__law_next a) (rCons (rVar 1) (rCons (rBin addD (rCB lenD (rCons (rVar 5) rNil)) (rC (.int 1))) rNil))) (rCons (rCall 2 (ct__law_next a) (rCons (rVar 1) (rCons (rC (.int 4)) rNil))) rNil)) (sC sc o3 o4 ls o6 o7 o8 o9) (src s) = .nx (sC sc o3 o4 ls o6 (some (.int n)) (some (.int kd)) o9) (src s2) := by
    unfold sC
    simp [n1, n2]
  unfold bChg
  rw [s_rSeq, hpar]
  have hk : kd = 0 ∨ kd = 1 ∨ kd = 2 ∨ kd = 3 := by omega
  have A1 : addV (.lst ((ls.take n).map D.str)) (.lst ([od].map D.str)) (src s3) = _ := add_lsts (by simp; omega)
  have A2 : addV (.lst ((ls.take n ++ [od]).map D.str)) (.lst ((ls.drop n).map D.str)) (src s3) = _ := add_lsts (by simp; omega)
  have A3 : addV (.lst ((ls.take n ++ [od]).map D.str)) (.lst ((ls.drop (n + 1)).map D.str)) (src s3) = _ := add_lsts (by simp; omega)
  have A4 : addV (.lst ((ls.take n).map D.str)) (.lst ((ls.drop (n + 1)).map D.str)) (src s2) = _ := add_lsts (by simp; omega)
  have A5 : addV (.lst ((ls.drop n).map D.str)) (.lst ((ls.take n).map D.str)) (src s2) = _ := add_lsts (by simp; omega)
  have rot : Lok (ls.drop n ++ ls.take n) ∧ (ls.drop n ++ ls.take n).length ≤ ls.length + 1 := ⟨⟨fun l hl => by
    rcases List.mem_append.mp hl with h | h
    · exact mem_drop L.mem l h
    · exact mem_take L.mem l h, by rw [List.length_append]; have := L.pos; omega⟩, by rw [List.length_append]; omega⟩
  rcases hk with rfl | rfl | rfl | rfl
  · refine ⟨ls.take n ++ [od] ++ ls.drop n, s3, some (.int n), some (.int 0), ⟨fun l hl => ?_, by simp; omega⟩, by simp; omega, ?_⟩
    · rcases List.mem_append.mp hl with h | h
      · rcases List.mem_append.mp h with h | h
        · exact mem_take L.mem l h
        · rw [List.mem_singleton.mp h]; exact od_in _ hm
      · exact mem_drop L.mem l h
    · unfold sC
      simp [-sliceV_lst, -addV_lst, -List.map_append, -List.map_take, -List.map_drop, -List.map_cons, eq_ints, slice_to, slice_from, pk, one_str, A1, A2]
  · refine ⟨ls.take n ++ [od] ++ ls.drop (n + 1), s3, some (.int n), some (.int 1), ⟨fun l hl => ?_, by simp; omega⟩, by simp; omega, ?_⟩
    · rcases List.mem_append.mp hl with h | h
      · rcases List.mem_append.mp h with h | h
        · exact mem_take L.mem l h
        · rw [List.mem_singleton.mp h]; exact od_in _ hm
      · exact mem_drop L.mem l h
    · unfold sC
      simp [-sliceV_lst, -addV_lst, -List.map_append, -List.map_take, -List.map_drop, -List.map_cons, eq_ints, slice_to, slice_from1, pk, one_str, A1, A3]
  · by_cases h1 : 1 < ls.length
    · have h1i : (1 : Int) < (ls.length : Int) := by omega
      refine ⟨ls.take n ++ ls.drop (n + 1), s2, some (.int n), some (.int 2), ⟨fun l hl => ?_, by rw [List.length_append]; omega⟩, by rw [List.length_append]; omega, ?_⟩
      · rcases List.mem_append.mp hl with h | h
        · exact mem_take L.mem l h
        · exact mem_drop L.mem l h
      · unfold sC
        simp [-sliceV_lst, -addV_lst, -List.map_append, -List.map_take, -List.map_drop, -List.map_cons, eq_ints, slice_to, slice_from1, h1, h1i, A4]
    · have h1i : ¬ (1 : Int) < (ls.length : Int) := by omega
      refine ⟨ls.drop n ++ ls.take n, s2, some (.int n), some (.int 2), rot.1, rot.2, ?_⟩
      unfold sC
      simp [-sliceV_lst, -addV_lst, -List.map_append, -List.map_take, -List.map_drop, -List.map_cons, eq_ints, slice_to, slice_from, h1, h1i, A5]
  · refine ⟨ls.drop n ++ ls.take n, s2, some (.int n), some (.int 3), rot.1, rot.2, ?_⟩
    unfold sC
    simp [-sliceV_lst, -addV_lst, -List.map_append, -List.map_take, -List.map_drop, -List.map_cons, eq_ints, slice_to, slice_from, A5]
end
end LX

namespace LX
open PySem L2 DL
noncomputable section
def sT (sc o3 o4 o5 o6 o7 o8 o9 : Option D) : Sl := [sc, some (.loc 1), some (.lst (OD.map D.str)), o3, o4, o5, o6, o7, o8, o9]
theorem lines_ok (a : Ad) (s : Src) (sc o3 o5 o6 o7 o8 o9 : Option D) (r : Rl) (q : Str → Bool) (Q : RlOk r) :
    rLc (rItems (fun _ μ => noX (ct__law_parts a [] μ))) (.nm 9) [9] rYes (rBin addD (rBin addD (rBin getD (rVar 9) (rC (.int 0))) (rC (.str " "))) (rBin getD (rBin getD (rVar 4) (rC (.int 1))) (rBin getD (rVar 9) (rC (.int 0))))) (sT sc o3 (some (.lst [.int 2, ruleD r, wordsD q])) o5 o6 o7 o8 o9) (src s) = .ok (.lst ((PWs.map fun p => ln p.1 (rlw r p.1)).map D.str)) (src s) := by
  have e1 := comp_t (t := .nm 9) (vs := [9]) (ft := rYes) (fe := rBin addD (rBin addD (rBin getD (rVar 9) (rC (.int 0))) (rC (.str " "))) (rBin getD (rBin getD (rVar 4) (rC (.int 1))) (rBin getD (rVar 9) (rC (.int 0))))) (δ := sT sc o3 (some (.lst [.int 2, ruleD r, wordsD q])) o5 o6 o7 o8 o9) (μ := src s) row (fun _ => true) (fun p => .str (ln p.1 (rlw r p.1))) PWs [] (by decide) fun p hp => by
    refine ⟨_, rfl, rfl, fun _ => ?_⟩
    obtain ⟨h1, h2⟩ := rlw_at Q p hp
    obtain ⟨l1, l2⟩ := pw_len p hp
    have l3 := l2 _ h2
    have g : getV (ruleD r) (.str p.1) (src s) = .ok (.str (rlw r p.1)) (src s) := by unfold ruleD; rw [getV_str, h1]; rfl
    have hv : ∀ μ, (ruleD r).view μ = ruleD r := fun _ => rfl
    have a1 : p.1.length + 1 ≤ 16777216 := by omega
    have a2 : (p.1 ++ " ").length + (rlw r p.1).length ≤ 16777216 := by rw [slen, sp_len]; omega
    simp only [sT, wipeD, row, s_rBin, s_rVar, s_rC, List.set_cons_zero, List.set_cons_succ, List.getElem?_cons_zero, List.getElem?_cons_succ, R.ok_bind, getD_eq, vw_lst, getV_lst, atI_0, atI_1, optR_some, addD_eq, vw_str, addV_str, sp_len, if_pos a1, hv, g, if_pos a2]
    rfl
  rw [List.nil_append, List.filter_eq_self.mpr (fun _ _ => rfl)] at e1
  rw [s_rLc]
  have hi : rItems (fun _ μ => noX (ct__law_parts a [] μ)) (sT sc o3 (some (.lst [.int 2, ruleD r, wordsD q])) o5 o6 o7 o8 o9) (src s) = .ok (PWs.map row) (src s) := by
    simp [parts_ok, noX, itemsD]
  rw [hi]
  simp only [R.ok_bind]
  rw [e1]
  simp only [R.ok_bind, List.map_map]
  rfl
abbrev bTurn (a : Ad) : RS := rSeq (rSet 4 (rCall 1 (ct__law_draw a) (rCons (rVar 1) rNil)))
    (rSeq (rSet 5 (rBin addD (rLst (rCons (rC (.str "prices 2")) rNil)) (rLc (rItems (fun _ μ => noX (ct__law_parts a [] μ))) (.nm 9) (([("_law_part", 9)] : List (Str × Nat)).map (·.2)) rYes (rBin addD (rBin addD (rBin getD (rVar 9) (rC (.int 0))) (rC (.str " "))) (rBin getD (rBin getD (rVar 4) (rC (.int 1))) (rBin getD (rVar 9) (rC (.int 0))))))))
    (rSeq (rSet 5 (rBin addD (rVar 5) (rLst (rCons (rMt isStr joinD (rC (.str " ")) (rCons (rBin addD (rLst (rCons (rC (.str "words")) rNil)) (rCB (listD false) (rCons (rBin getD (rVar 4) (rC (.int 2))) rNil))) rNil)) rNil))))
    (rSeq (rFor (rRange1 (rCons (rCall 2 (ct__law_next a) (rCons (rVar 1) (rCons (rC (.int 3)) rNil))) rNil)) (.nm 6) (bChg a))
    (rIfS (rNotT (rT (rCall 2 (ct__law_alike a) (rCons (rCall 1 (ct__law_answer a) (rCons (rMt isStr joinD (rC (.str "\n")) (rCons (rVar 5) rNil)) rNil)) (rCons (rCall 1 (ct__law_first_wrong a) (rCons (rVar 5) rNil)) rNil))))) (rRet (rC (.bl false))) (fun δ μ => .nx δ μ)))))
theorem chgs_ok (a : Ad) (sc o3 o4 o9 : Option D) : ∀ (ds : List D) (s : Src) (ls : List Str) (o6 o7 o8 : Option D), Lok ls → ls.length + ds.length ≤ 100 → ∃ ls' s' o6' o7' o8', Lok ls' ∧ ls'.length ≤ 100 ∧ forL (.nm 6) (bChg a) ds (sT sc o3 o4 (some (.lst (ls.map D.str))) o6 o7 o8 o9) (src s) = .nx (sT sc o3 o4 (some (.lst (ls'.map D.str))) o6' o7' o8' o9) (src s')
  | [], s, ls, o6, o7, o8, L, hl => ⟨ls, s, o6, o7, o8, L, by simpa using hl, rfl⟩
  | d :: ds, s, ls, o6, o7, o8, L, hl => by
    rw [List.length_cons] at hl
    obtain ⟨ls1, s1, p7, p8, L1, hl1, e1⟩ := chg_ok a s sc o3 o4 (some d) o7 o8 o9 ls L (by omega)
    obtain ⟨ls', s', o6', o7', o8', L', hl', e2⟩ := chgs_ok a sc o3 o4 o9 ds s1 ls1 (some d) p7 p8 L1 (by omega)
    refine ⟨ls', s', o6', o7', o8', L', hl', ?_⟩
    rw [forL]
    show (match bChg a (sC sc o3 o4 ls (some d) o7 o8 o9) (src s) with
      | .nx δ2 μ2 => forL (.nm 6) (bChg a) ds δ2 μ2
      | .ct δ2 μ2 => forL (.nm 6) (bChg a) ds δ2 μ2
      | .bk δ2 μ2 => .nx δ2 μ2
      | r => r) = _
    rw [e1]
    exact e2
theorem t_u2 (a : Ad) (s1 : Src) (sc o3 o5 o6 o7 o8 o9 : Option D) (r : Rl) (q : Str → Bool) (Q : RlOk r) : rSet 5 (rBin addD (rLst (rCons (rC (.str "prices 2")) rNil)) (rLc (rItems (fun _ μ => noX (ct__law_parts a [] μ))) (.nm 9) (([("_law_part", 9)] : List (Str × Nat)).map (·.2)) rYes (rBin addD (rBin addD (rBin getD (rVar 9) (rC (.int 0))) (rC (.str " "))) (rBin getD (rBin getD (rVar 4) (rC (.int 1))) (rBin getD (rVar 9) (rC (.int 0)))))))
    (sT sc o3 (some (.lst [.int 2, ruleD r, wordsD q])) o5 o6 o7 o8 o9) (src s1) = .nx (sT sc o3 (some (.lst [.int 2, ruleD r, wordsD q])) (some (.lst ((("prices 2" : Str) :: PWs.map fun p => ln p.1 (rlw r p.1)).map D.str))) o6 o7 o8 o9) (src s1) := by
  have := lines_ok a s1 sc o3 o5 o6 o7 o8 o9 r q Q
  rw [s_rSet, s_rBin]
  have h1 : rLst (rCons (rC (.str "prices 2")) rNil) (sT sc o3 (some (.lst [.int 2, ruleD r, wordsD q])) o5 o6 o7 o8 o9) (src s1) = .ok (.lst ((["prices 2"] : List Str).map D.str)) (src s1) := by simp
  rw [h1]
  simp only [R.ok_bind, List.map_cons, List.map_nil]
  rw [this]
  simp only [R.ok_bind, addD_eq, vw_lst]
  have h2 := add_lsts (xs := ["prices 2"]) (ys := PWs.map fun p => ln p.1 (rlw r p.1)) (μ := src s1) (by simp [PWs])
  simp only [List.map_cons, List.map_nil] at h2
  rw [h2]
  rfl
theorem t_u3 (a : Ad) (s1 : Src) (sc o3 o5 o6 o7 o8 o9 : Option D) (r : Rl) (q : Str → Bool) (Q : RlOk r) : rSet 5 (rBin addD (rVar 5) (rLst (rCons (rMt isStr joinD (rC (.str " ")) (rCons (rBin addD (rLst (rCons (rC (.str "words")) rNil)) (rCB (listD false) (rCons (rBin getD (rVar 4) (rC (.int 2))) rNil))) rNil)) rNil)))
    (sT sc o3 (some (.lst [.int 2, ruleD r, wordsD q])) (some (.lst ((("prices 2" : Str) :: PWs.map fun p => ln p.1 (rlw r p.1)).map D.str))) o6 o7 o8 o9) (src s1) = .nx (sT sc o3 (some (.lst [.int 2, ruleD r, wordsD q])) (some (.lst ((base r q).map D.str))) o6 o7 o8 o9) (src s1) := by
  have hw6 : (wordsL q).length ≤ 6 := List.length_filter_le q W6
  have a1 := add_lsts (xs := ["words"]) (ys := wordsL q) (μ := src s1) (by simp; omega)
  have j1 := join_ok (s := " ") (LS := "words" :: wordsL q) sp_len (fun l hl => by
    have : l ∈ (("words" : Str) :: W6) := by
      rcases List.mem_cons.mp hl with rfl | hl
      · exact List.mem_cons_self
      · exact List.mem_cons_of_mem _ (List.mem_filter.mp hl).1
    have := w6_len l this
    omega) (by simp; omega) (src s1)
  have a2 := add_lsts (xs := "prices 2" :: PWs.map fun p => ln p.1 (rlw r p.1)) (ys := [last (wordsL q)]) (μ := src s1) (by simp [PWs])
  have hv : (wordsD q).view (src s1) = .tup ((wordsL q).map D.str) := rfl
  have e1 : rMt isStr joinD (rC (.str " ")) (rCons (rBin addD (rLst (rCons (rC (.str "words")) rNil)) (rCB (listD false) (rCons (rBin getD (rVar 4) (rC (.int 2))) rNil))) rNil) (sT sc o3 (some (.lst [.int 2, ruleD r, wordsD q])) (some (.lst ((("prices 2" : Str) :: PWs.map fun p => ln p.1 (rlw r p.1)).map D.str))) o6 o7 o8 o9) (src s1) = .ok (.str (last (wordsL q))) (src s1) := by
    unfold sT
    simp only [List.map_cons, List.map_nil] at a1
    simp [-addV_lst, isStr, hv, a1]
    exact j1
  rw [s_rSet, s_rBin]
  have e2 : rVar 5 (sT sc o3 (some (.lst [.int 2, ruleD r, wordsD q])) (some (.lst ((("prices 2" : Str) :: PWs.map fun p => ln p.1 (rlw r p.1)).map D.str))) o6 o7 o8 o9) (src s1) = .ok (.lst ((("prices 2" : Str) :: PWs.map fun p => ln p.1 (rlw r p.1)).map D.str)) (src s1) := rfl
  rw [e2]
  simp only [R.ok_bind]
  rw [s_rLst, s_rCons, e1]
  simp only [R.ok_bind, s_rNil, List.length_cons, List.length_nil]
  rw [if_pos (by omega)]
  simp only [R.ok_bind, addD_eq, vw_lst]
  have a2' : addV (.lst ((("prices 2" : Str) :: PWs.map fun p => ln p.1 (rlw r p.1)).map D.str)) (.lst [.str (last (wordsL q))]) (src s1) = .ok (.lst ((base r q).map D.str)) (src s1) := a2
  rw [a2']
  rfl
theorem t_u5 (a : Ad) {δ : Sl} {μ : List Ob} {L t x y : D} (v5 : rVar 5 δ μ = .ok L μ) (jn : joinD (.str "\n") [L] μ = .ok t μ) (an : ct__law_answer a [t] μ = .ok x μ) (fw : ct__law_first_wrong a [L] μ = .ok y μ) (al : ct__law_alike a [x, y] μ = .ok (.bl true) μ) :
    rIfS (rNotT (rT (rCall 2 (ct__law_alike a) (rCons (rCall 1 (ct__law_answer a) (rCons (rMt isStr joinD (rC (.str "\n")) (rCons (rVar 5) rNil)) rNil)) (rCons (rCall 1 (ct__law_first_wrong a) (rCons (rVar 5) rNil)) rNil))))) (rRet (rC (.bl false))) (fun δ μ => .nx δ μ) δ μ = .nx δ μ := by
  have c0 : rMt isStr joinD (rC (.str "\n")) (rCons (rVar 5) rNil) δ μ = .ok t μ := by
    rw [s_rMt, s_rC]
    simp only [R.ok_bind, vw_str, isStr, if_true]
    rw [s_rCons, v5]
    simp only [R.ok_bind, s_rNil]
    exact jn
  have c1 : rCall 1 (ct__law_answer a) (rCons (rMt isStr joinD (rC (.str "\n")) (rCons (rVar 5) rNil)) rNil) δ μ = .ok x μ := by
    rw [s_rCall, s_rCons, c0]
    simp only [R.ok_bind, s_rNil, List.length_cons, List.length_nil, Nat.zero_add, Nat.reduceAdd, if_true]
    exact an
  have c2 : rCall 1 (ct__law_first_wrong a) (rCons (rVar 5) rNil) δ μ = .ok y μ := by
    rw [s_rCall, s_rCons, v5]
    simp only [R.ok_bind, s_rNil, List.length_cons, List.length_nil, Nat.zero_add, Nat.reduceAdd, if_true]
    exact fw
  have c3 : rCall 2 (ct__law_alike a) (rCons (rCall 1 (ct__law_answer a) (rCons (rMt isStr joinD (rC (.str "\n")) (rCons (rVar 5) rNil)) rNil)) (rCons (rCall 1 (ct__law_first_wrong a) (rCons (rVar 5) rNil)) rNil)) δ μ = .ok (.bl true) μ := by
    rw [s_rCall, s_rCons, c1]
    simp only [R.ok_bind]
    rw [s_rCons, c2]
    simp only [R.ok_bind, s_rNil, List.length_cons, List.length_nil, Nat.zero_add, Nat.reduceAdd, if_true]
    exact al
  rw [s_rIfS, s_rNotT, s_rT, c3]
  rfl
theorem turn_ok (a : Ad) (s : Src) (sc o3 o4 o5 o6 o7 o8 o9 : Option D) : ∃ p4 p5 p6 p7 p8 s', bTurn a (sT sc o3 o4 o5 o6 o7 o8 o9) (src s) = .nx (sT sc o3 p4 p5 p6 p7 p8 o9) (src s') := by
  obtain ⟨r, q, s1, Q, ed⟩ := draw_ok a s []
  simp only [List.append_nil] at ed
  have u1 : rSet 4 (rCall 1 (ct__law_draw a) (rCons (rVar 1) rNil)) (sT sc o3 o4 o5 o6 o7 o8 o9) (src s) = .nx (sT sc o3 (some (.lst [.int 2, ruleD r, wordsD q])) o5 o6 o7 o8 o9) (src s1) := by
    unfold sT
    simp [ed]
  have u2 := t_u2 a s1 sc o3 o5 o6 o7 o8 o9 r q Q
  have u3 := t_u3 a s1 sc o3 o5 o6 o7 o8 o9 r q Q
  have n3 := next_ok a s1 [] 3 (by decide) (by decide)
  simp only [List.append_nil] at n3
  obtain ⟨r0, r1⟩ := next_rng s1 (cap := 3) (by decide)
  have hbl : (base r q).length = 8 := by simp [base, PWs]
  have hb : Lok (base r q) := ⟨base_in Q q, by rw [hbl]; decide⟩
  obtain ⟨ls, s2, p6, p7, p8, L, hl, e4⟩ := chgs_ok a sc o3 (some (.lst [.int 2, ruleD r, wordsD q])) o9 (upTo 0 (s1.next 3).1.toNat) (s1.next 3).2 (base r q) o6 o7 o8 hb (by rw [hbl, upTo_z]; simp; omega)
  have hR := range1_j (fs := rCons (rCall 2 (ct__law_next a) (rCons (rVar 1) (rCons (rC (.int 3)) rNil))) rNil) (δ := sT sc o3 (some (.lst [.int 2, ruleD r, wordsD q])) (some (.lst ((base r q).map D.str))) o6 o7 o8 o9) (μ := src s1) (μ1 := src (s1.next 3).2) (j := (s1.next 3).1) (by
    unfold sT
    simp [n3]) r0 (by omega)
  have f6 : rFor (rRange1 (rCons (rCall 2 (ct__law_next a) (rCons (rVar 1) (rCons (rC (.int 3)) rNil))) rNil)) (.nm 6) (bChg a) (sT sc o3 (some (.lst [.int 2, ruleD r, wordsD q])) (some (.lst ((base r q).map D.str))) o6 o7 o8 o9) (src s1) = .nx (sT sc o3 (some (.lst [.int 2, ruleD r, wordsD q])) (some (.lst (ls.map D.str))) p6 p7 p8 o9) (src s2) := by
    rw [s_rFor, hR]
    exact e4
  have hg : ∀ l ∈ ls, Gl l := fun l hl => lset_gl l (L.mem l hl)
  have sp := text_split hg L.pos (by omega)
  have an := answer_ok a (Txt.join "\n" ls) ls (src s2) hg L.pos sp
  have fw := fw_ok' a ls (src s2) hg (by omega)
  have al := alike_ok a (W 0 ls) (src s2)
  have jn := join_ok (s := "\n") (LS := ls) nl_len (fun l hl => (hg l hl).len) (by omega) (src s2)
  refine ⟨some (.lst [.int 2, ruleD r, wordsD q]), some (.lst (ls.map D.str)), p6, p7, p8, s2, ?_⟩
  have u5 : rIfS (rNotT (rT (rCall 2 (ct__law_alike a) (rCons (rCall 1 (ct__law_answer a) (rCons (rMt isStr joinD (rC (.str "\n")) (rCons (rVar 5) rNil)) rNil)) (rCons (rCall 1 (ct__law_first_wrong a) (rCons (rVar 5) rNil)) rNil))))) (rRet (rC (.bl false))) (fun δ μ => .nx δ μ) (sT sc o3 (some (.lst [.int 2, ruleD r, wordsD q])) (some (.lst (ls.map D.str))) p6 p7 p8 o9) (src s2) = .nx (sT sc o3 (some (.lst [.int 2, ruleD r, wordsD q])) (some (.lst (ls.map D.str))) p6 p7 p8 o9) (src s2) := by
    exact t_u5 a rfl jn an fw al
  unfold bTurn
  rw [s_rSeq, u1]
  show rSeq _ _ (sT sc o3 (some (.lst [.int 2, ruleD r, wordsD q])) o5 o6 o7 o8 o9) (src s1) = _
  rw [s_rSeq, u2]
  show rSeq _ _ (sT sc o3 (some (.lst [.int 2, ruleD r, wordsD q])) (some (.lst ((("prices 2" : Str) :: PWs.map fun p => ln p.1 (rlw r p.1)).map D.str))) o6 o7 o8 o9) (src s1) = _
  rw [s_rSeq, u3]
  show rSeq _ _ (sT sc o3 (some (.lst [.int 2, ruleD r, wordsD q])) (some (.lst ((base r q).map D.str))) o6 o7 o8 o9) (src s1) = _
  rw [s_rSeq, f6]
  exact u5
theorem turns_ok (a : Ad) (sc o9 : Option D) : ∀ (ds : List D) (s : Src) (o3 o4 o5 o6 o7 o8 : Option D), ∃ p3 p4 p5 p6 p7 p8 s', forL (.nm 3) (bTurn a) ds (sT sc o3 o4 o5 o6 o7 o8 o9) (src s) = .nx (sT sc p3 p4 p5 p6 p7 p8 o9) (src s')
  | [], s, o3, o4, o5, o6, o7, o8 => ⟨o3, o4, o5, o6, o7, o8, s, rfl⟩
  | d :: ds, s, o3, o4, o5, o6, o7, o8 => by
    obtain ⟨p4, p5, p6, p7, p8, s1, e1⟩ := turn_ok a s sc (some d) o4 o5 o6 o7 o8 o9
    obtain ⟨q3, q4, q5, q6, q7, q8, s', e2⟩ := turns_ok a sc o9 ds s1 (some d) p4 p5 p6 p7 p8
    refine ⟨q3, q4, q5, q6, q7, q8, s', ?_⟩
    rw [forL]
    show (match bTurn a (sT sc (some d) o4 o5 o6 o7 o8 o9) (src s) with
      | .nx δ2 μ2 => forL (.nm 3) (bTurn a) ds δ2 μ2
      | .ct δ2 μ2 => forL (.nm 3) (bTurn a) ds δ2 μ2
      | .bk δ2 μ2 => .nx δ2 μ2
      | r => r) = _
    rw [e1]
    exact e2
theorem empty_ok (a : Ad) (μ : List Ob) : ct__law_answer a [.str ""] μ = .ok (.int 1) μ := by
  have hg : ∀ l ∈ ([""] : List Str), Gl l := gl_of (by decide +kernel)
  have sp := fun μ => text_split (LS := [""]) hg (by decide) (by decide) μ
  have ej : Txt.join "\n" [""] = ("" : Str) := by decide +kernel
  rw [ej] at sp
  have an := answer_ok a "" [""] μ hg (by decide) sp
  have w : W 0 [""] = some 1 := by decide +kernel
  rw [w] at an
  exact an
theorem law_true (a : Ad) (ns : List Int) (h : ns.length ≤ 63) : ∃ μ, ct_law a [.frl (ns.map D.int)] [] = .ok (.bl true) μ := by
  obtain ⟨s, e1⟩ := mix_ok a ns h 15
  obtain ⟨p3, p4, p5, p6, p7, p8, s', e2⟩ := turns_ok a (some (.frl (ns.map D.int))) none (upTo 0 8) s none none none none none none
  have e3 := empty_ok a (src s')
  have hR := range1_j (fs := rCons (rC (.int 8)) rNil) (δ := sT (some (.frl (ns.map D.int))) none none none none none none none) (μ := src s) (μ1 := src s) (j := 8) rfl (by decide) (by decide)
  refine ⟨src s', ?_⟩
  unfold ct_law ctOf r_law
  have u1 : rSet 1 (rCall 2 (ct__law_mix a) (rCons (rVar 0) (rCons (rC (.int 15)) rNil))) [some (.frl (ns.map D.int)), none, none, none, none, none, none, none, none, none] [] = .nx [some (.frl (ns.map D.int)), some (.loc 1), none, none, none, none, none, none, none, none] (src s) := by
    simp [e1]
  have f8 : rFor (rRange1 (rCons (rC (.int 8)) rNil)) (.nm 3) (bTurn a) (sT (some (.frl (ns.map D.int))) none none none none none none none) (src s) = .nx (sT (some (.frl (ns.map D.int))) p3 p4 p5 p6 p7 p8 none) (src s') := by
    rw [s_rFor, hR]
    exact e2
  have tl : rRet (rBin eqD (rCall 1 (ct__law_answer a) (rCons (rC (.str "")) rNil)) (rC (.int 1))) (sT (some (.frl (ns.map D.int))) p3 p4 p5 p6 p7 p8 none) (src s') = .rt (.bl true) (src s') := by
    unfold sT
    simp [e3, eq_ints]
  show (match (rSeq _ _) [some (.frl (ns.map D.int)), none, none, none, none, none, none, none, none, none] [] with
    | .rt d μ1 => DL.R.ok d μ1
    | .nx _ μ1 => .ok .non μ1
    | .exc x _ μ1 => .exc x μ1
    | _ => .bad) = _
  rw [s_rSeq, u1]
  simp only
  have od : ∀ (R : SO) (g : RS), g (sT (some (.frl (ns.map D.int))) none none none none none none none) (src s) = R →
    (rSeq (rSet 2 (rLst (rCons (rC (.str "")) (rCons (rC (.str "prices 4")) (rCons (rC (.str "prices")) (rCons (rC (.str "prices 2 3")) (rCons (rC (.str "counts fits ")) (rCons (rC (.str "lost")) rNil))))))))
    (rSeq (rSet 2 (rBin addD (rVar 2) (rLst (rCons (rC (.str "tells two")) (rCons (rC (.str "search keeps keeps")) (rCons (rC (.str " lost again")) rNil))))))
    (rSeq (rSet 2 (rBin addD (rVar 2) (rLst (rCons (rC (.str "words pause lose")) (rCons (rC (.str "words go")) (rCons (rC (.str "words ")) (rCons (rC (.str "words")) (rCons (rC (.str "evening  looks")) rNil))))))))
    (rSeq (rSet 2 (rBin addD (rVar 2) (rLst (rCons (rC (.str "prices 3")) (rCons (rC (.str "tells now")) (rCons (rC (.str "word lose")) rNil)))))) g)))) [some (.frl (ns.map D.int)), some (.loc 1), none, none, none, none, none, none, none, none] (src s) = R := fun R g hR => by
    subst hR
    simp
    rfl
  rw [od _ _ rfl, s_rSeq, f8]
  simp only
  rw [tl]
end
end LX

namespace LX
open PySem L2 DL
theorem walk {l : PySem.W.OpenLaw} {q : Program} {loose : List Str} {XP : (Str → Option Value) → Heap → Prop} {YP : World → Heap → Prop} {d : DefRec} {K : Params → PySem.W.Frag} (hn : l.most = some 63) (hdf : d.params.defaults = [])
    (hY : ∀ (w : World) (h : Heap), YP w h → (K w.params).In h)
    (F : ∀ (w : World) (mg : Str → Option Value) (fa : Addr) (h : Heap), (K w.params).In h → h.Ns mainGlobals mg → mg d.name = some (.ref fa) →
      ∃ (a : Ad) (fd : FuncData), (∀ (s : Shared) (u : Value), BindsTo s fd ⟨[u], []⟩ [("_law_script", u)]) ∧ ∀ base : Heap, (K w.params).In base → base.Ns mainGlobals mg → FnOk l.prog w (K w.params) mg base (L2.CX l.prog w) 8 fa fd ["_law_script"] (spD (K w.params) 1 (ct_law a)))
    (m : ∀ (a : Ad) (ns : List Int), ns.length ≤ 63 → ∃ μ, ct_law a [.frl (ns.map D.int)] [] = .ok (.bl true) μ) :
    PySem.W.WalkO q loose XP YP l.row.toRowW d [] (fun f vs => PySem.call f vs) :=
  L2.walk_of (n := 63) (k := 8) (x := "_law_script") (CX := fun w => L2.CX l.prog w) (sp := fun w => spLaw (K w.params)) hn (by decide) hdf ⟨rfl, by decide, by decide⟩ hY
    (fun w mg fa h X G e => let ⟨a, fd, h1, h2⟩ := F w mg fa h X G e; ⟨fd, h1, fun base b1 b2 => DL.spd_of (h2 base b1 b2) (m a)⟩)
    (fun _ _ a ns hl _ hS => ⟨a, ns, rfl, hS, hl, fun _ => rfl⟩) fun _ _ _ _ _ z => by
      obtain ⟨_, _, _, _, _, _, _, _, _, _, _, _, z⟩ := z
      exact z.elim
end LX
open PySem PySem.W PyProof.Rows
set_option maxRecDepth 100000 in
set_option maxHeartbeats 0 in
theorem PySem.Challenge.cw_findstold_k15_texts_refused_holds : PySem.Challenge.rw_findstold_k15_texts_refused.Holds := by
  w_on; o_law; k_head; (case hw => w_witness2)
  k_fill
  refine LX.walk (l := PySem.Challenge.rw_findstold_k15_texts_refused) rfl rfl (fun w h Y => PySem.W.kIn_of Y) ?F LX.law_true
  case F =>
    intro w mg fa h KX G hmg
    refine' LX.all_mk KX G ?gkInvalidLine ?gkFindError hmg ?gkBook ?a0 ?l0 ?c0 ?k0 ?a1 ?l1 ?c1 ?k1 ?a2 ?l2 ?c2 ?k2 ?a3 ?i3 ?l3 ?c3 ?k3 ?a4 ?l4 ?c4 ?k4 ?a5 ?l5 ?c5 ?k5 ?a6 ?l6 ?c6 ?k6 ?a7 ?l7 ?c7 ?k7 ?a8 ?l8 ?c8 ?k8 ?a9 ?l9 ?c9 ?k9 ?a10 ?l10 ?c10 ?k10 ?a11 ?l11 ?c11 ?k11 ?a12 ?l12 ?c12 ?k12 ?a13 ?l13 ?c13 ?k13 ?a14 ?l14 ?c14 ?k14 ?a15 ?l15 ?c15 ?k15 ?a16 ?l16 ?c16 ?k16 ?a17 ?l17 ?c17 ?k17 ?a18 ?l18 ?c18 ?k18 ?a19 ?l19 ?c19 ?k19 ?hTop ?tpX ?msX ?lcInvalidLine ?saInvalidLine ?ecInvalidLine ?tyInvalidLine ?kcInvalidLine ?iiInvalidLine ?itInvalidLine ?lfInvalidLine ?llInvalidLine ?hcInvalidLine ?lkInvalidLine ?hvInvalidLine ?hfInvalidLine ?suInvalidLine ?smInvalidLine ?sVInvalidLine ?nfInvalidLine_line ?beInvalidLine ?bdInvalidLine ?btInvalidLine ?esInvalidLine_InvalidLine ?xgInvalidLine ?xhInvalidLine ?beFindError ?bdFindError ?btFindError ?kaInvalidLine ?kmInvalidLine ?knX ?ktX ?kqInvalidLine_FindError ?kkFindError ?nxInvalidLine_line ?pgBook ?hdBook ?poBook ?saBook ?mkBook ?kcBook ?g_PARTS ?ldPARTS ?kkPARTS ?loPARTS ?enPARTS ?ltPARTS_0 ?szPARTS_0 ?vlPARTS_0 ?ltPARTS_1 ?szPARTS_1 ?vlPARTS_1 ?ltPARTS_2 ?szPARTS_2 ?vlPARTS_2 ?ltPARTS_3 ?szPARTS_3 ?vlPARTS_3 ?ltPARTS_4 ?szPARTS_4 ?vlPARTS_4 ?ltPARTS_5 ?szPARTS_5 ?vlPARTS_5 ?ltPRICES ?szPRICES ?vlPRICES ?g_PRICES ?ltWORDS ?szWORDS ?vlWORDS ?g_WORDS ?n_all ?n_bool ?n_dict ?n_int ?n_isinstance ?n_len ?n_list ?n_max ?n_range ?n_str ?n_tuple ?at_Book_highest ?at_Book_kinds ?at_Book_terms
    (case gkBook => k_is)
    (case gkFindError => k_is)
    (case gkInvalidLine => k_is)
    (case g_WORDS => k_is)
    (case g_PRICES => k_is)
    (case a0 => k_is)
    (case l0 => k_is)
    (case c0 => k_is)
    (case k0 => k_is)
    (case a1 => k_is)
    (case l1 => k_is)
    (case c1 => k_is)
    (case k1 => k_is)
    (case a2 => k_is)
    (case l2 => k_is)
    (case c2 => k_is)
    (case k2 => k_is)
    (case a3 => k_is)
    (case i3 => k_is)
    (case l3 => k_is)
    (case c3 => k_is)
    (case k3 => k_is)
    (case a4 => k_is)
    (case l4 => k_is)
    (case c4 => k_is)
    (case k4 => k_is)
    (case a5 => k_is)
    (case l5 => k_is)
    (case c5 => k_is)
    (case k5 => k_is)
    (case a6 => k_is)
    (case l6 => k_is)
    (case c6 => k_is)
    (case k6 => k_is)
    (case a7 => k_is)
    (case l7 => k_is)
    (case c7 => k_is)
    (case k7 => k_is)
    (case a8 => k_is)
    (case l8 => k_is)
    (case c8 => k_is)
    (case k8 => k_is)
    (case a9 => k_is)
    (case l9 => k_is)
    (case c9 => k_is)
    (case k9 => k_is)
    (case a10 => k_is)
    (case l10 => k_is)
    (case c10 => k_is)
    (case k10 => k_is)
    (case a11 => k_is)
    (case l11 => k_is)
    (case c11 => k_is)
    (case k11 => k_is)
    (case a12 => k_is)
    (case l12 => k_is)
    (case c12 => k_is)
    (case k12 => k_is)
    (case a13 => k_is)
    (case l13 => k_is)
    (case c13 => k_is)
    (case k13 => k_is)
    (case a14 => k_is)
    (case l14 => k_is)
    (case c14 => k_is)
    (case k14 => k_is)
    (case a15 => k_is)
    (case l15 => k_is)
    (case c15 => k_is)
    (case k15 => k_is)
    (case a16 => k_is)
    (case l16 => k_is)
    (case c16 => k_is)
    (case k16 => k_is)
    (case a17 => k_is)
    (case l17 => k_is)
    (case c17 => k_is)
    (case k17 => k_is)
    (case a18 => k_is)
    (case l18 => k_is)
    (case c18 => k_is)
    (case k18 => k_is)
    (case a19 => k_is)
    (case l19 => k_is)
    (case c19 => k_is)
    (case k19 => k_is)
    (case hTop => first | rfl | decide +kernel)
    (case tpX => k_is)
    (case msX => k_is)
    (case lcInvalidLine => k_is)
    (case saInvalidLine => k_is)
    (case ecInvalidLine => k_is)
    (case tyInvalidLine => k_is)
    (case kcInvalidLine => k_is)
    (case iiInvalidLine => k_is)
    (case itInvalidLine => k_is)
    (case lfInvalidLine => k_is)
    (case llInvalidLine => k_is)
    (case hcInvalidLine => k_is)
    (case lkInvalidLine => k_is)
    (case hvInvalidLine => rfl)
    (case hfInvalidLine => first | rfl | decide +kernel)
    (case suInvalidLine => ks_is)
    (case smInvalidLine => k_is)
    (case sVInvalidLine => k_is)
    (case nfInvalidLine_line => k_is)
    (case beInvalidLine => k_is)
    (case bdInvalidLine => k_is)
    (case btInvalidLine => k_is)
    (case esInvalidLine_InvalidLine => k_is)
    (case xgInvalidLine => k_is)
    (case xhInvalidLine => k_is)
    (case beFindError => k_is)
    (case bdFindError => k_is)
    (case btFindError => k_is)
    (case kaInvalidLine => k_is)
    (case kmInvalidLine => k_is)
    (case knX => k_is)
    (case ktX => k_is)
    (case kqInvalidLine_FindError => k_is)
    (case kkFindError => exact rfl)
    (case nxInvalidLine_line => k_is)
    (case pgBook => k_is)
    (case hdBook => k_is)
    (case poBook => k_is)
    (case saBook => k_is)
    (case mkBook => k_is)
    (case kcBook => k_is)
    (case g_PARTS => k_is)
    (case ldPARTS => k_is)
    (case kkPARTS => k_keys)
    (case loPARTS => decide)
    (case enPARTS => exact .cons ⟨⟨_, _, rfl, rfl⟩, rfl⟩ (.cons ⟨⟨_, _, rfl, rfl⟩, rfl⟩ (.cons ⟨⟨_, _, rfl, rfl⟩, rfl⟩ (.cons ⟨⟨_, _, rfl, rfl⟩, rfl⟩ (.cons ⟨⟨_, _, rfl, rfl⟩, rfl⟩ (.cons ⟨⟨_, _, rfl, rfl⟩, rfl⟩ (.nil)))))))
    (case ltPARTS_0 => k_is)
    (case szPARTS_0 => decide)
    (case vlPARTS_0 => exact .cons ⟨_, rfl⟩ (.cons ⟨_, rfl⟩ (.nil)))
    (case ltPARTS_1 => k_is)
    (case szPARTS_1 => decide)
    (case vlPARTS_1 => exact .cons ⟨_, rfl⟩ (.cons ⟨_, rfl⟩ (.nil)))
    (case ltPARTS_2 => k_is)
    (case szPARTS_2 => decide)
    (case vlPARTS_2 => exact .cons ⟨_, rfl⟩ (.cons ⟨_, rfl⟩ (.nil)))
    (case ltPARTS_3 => k_is)
    (case szPARTS_3 => decide)
    (case vlPARTS_3 => exact .cons ⟨_, rfl⟩ (.cons ⟨_, rfl⟩ (.cons ⟨_, rfl⟩ (.nil))))
    (case ltPARTS_4 => k_is)
    (case szPARTS_4 => decide)
    (case vlPARTS_4 => exact .cons ⟨_, rfl⟩ (.cons ⟨_, rfl⟩ (.nil)))
    (case ltPARTS_5 => k_is)
    (case szPARTS_5 => decide)
    (case vlPARTS_5 => exact .cons ⟨_, rfl⟩ (.cons ⟨_, rfl⟩ (.nil)))
    (case ltPRICES => k_is)
    (case szPRICES => decide)
    (case vlPRICES => exact .cons ⟨_, rfl⟩ (.cons ⟨_, rfl⟩ (.nil)))
    (case ltWORDS => k_is)
    (case szWORDS => decide)
    (case vlWORDS => exact .cons ⟨_, rfl⟩ (.cons ⟨_, rfl⟩ (.cons ⟨_, rfl⟩ (.cons ⟨_, rfl⟩ (.cons ⟨_, rfl⟩ (.cons ⟨_, rfl⟩ (.nil)))))))
    (case n_all => k_is)
    (case n_bool => k_is)
    (case n_dict => k_is)
    (case n_int => k_is)
    (case n_isinstance => k_is)
    (case n_len => k_is)
    (case n_list => k_is)
    (case n_max => k_is)
    (case n_range => k_is)
    (case n_str => k_is)
    (case n_tuple => k_is)
    (case at_Book_highest => k_is)
    (case at_Book_kinds => k_is)
    (case at_Book_terms => k_is)

