import PyProof.Rows.All
import Wide.All
import OpenK.AllK
import Wide.FinOn
import HandS.ForMost
import HandS.ForExc
import HandS.More
import HandS.TupAny
import HandS.Text
import HandS.Deep
import HandS.IsInst
import HandS.Iter
import HandS.Comp
import HandS.DictComp
import HandS.Zip
import HandS.RaiseMore
import HandS.Star
import HandS.Small
import HandS.OwnEq
import HandS.Style
import HandS.ForDict
import HandS.DeepEq
import KE.KExcSuper
import HandS.ExcInit
import HandS.Nested
import HandS.TryMany
import HandS.ExcField
import HandS.ExcIs
import KE.SortData
import HandS.SetFor
import HandS.SetTxt0
import HandS.Strs
import HandS.TupSets
import KE.GoesMore
import HandS.Conv
import HandS.Property
import PyProof.DictUpdate
import HandS.CallSlots
import PySem.Challenge.RW_findstold_k01_books_refused
set_option Elab.async false
set_option linter.all false
set_option maxRecDepth 100000
set_option maxHeartbeats 1000000
/-! The data layer: values as data, mutable objects in a store by places; readings are functions. -/
namespace DL
open PySem L2

/-- a value as data: tup, lst, dct, ins stand still; loc k is the k-th object of the store -/
inductive D where
  | non | bl (b : Bool) | int (i : Int) | str (s : Str)
  | tup (xs : List D) | lst (xs : List D) | frl (xs : List D)
  | dct (ks : List Key) (xs : List D)
  | ins (C : Addr) (fs : List Str) (xs : List D)
  | loc (k : Nat)
  | vv (x : V)
/-- an object of the store -/
inductive Ob where
  | lst (xs : List D) | dct (ks : List Key) (xs : List D) | ins (C : Addr) (fs : List Str) (xs : List D) | dead

/-- a dict that is read; one that stands still -/
def RdD (H : Hp) (a : Addr) (kvs : List (Key × V)) : Prop := Rd H a (.dK kvs)
def FzD (H : Hp) (a : Addr) (kvs : List (Key × V)) : Prop := ∃ o, H a = some (.frz o (.dK kvs))
theorem FzD.rd {H : Hp} {a : Addr} {kvs : List (Key × V)} (h : FzD H a kvs) : RdD H a kvs := let ⟨o, h⟩ := h; .inr ⟨o, h⟩

mutual
inductive Is (K : PySem.W.Frag) (α : List Addr) (F : Hp) : V → D → Prop
  | non : Is K α F .non .non
  | bl (b : Bool) : Is K α F (.bl b) (.bl b)
  | int (i : Int) : Is K α F (.int i) (.int i)
  | str (s : Str) : Is K α F (.str s) (.str s)
  | tup {a : Addr} {vs : List V} {ds : List D} : SqT K F a vs → IsL K α F vs ds → Is K α F (.ref a) (.tup ds)
  | lst {a : Addr} {vs : List V} {ds : List D} : F a = some (.lst vs) → IsL K α F vs ds → Is K α F (.ref a) (.lst ds)
  | frl {a : Addr} {vs : List V} {ds : List D} : SqL K F a vs → IsL K α F vs ds → Is K α F (.ref a) (.frl ds)
  | dct {a : Addr} {kvs : List (Key × V)} {ks : List Key} {ds : List D} : FzD F a kvs → kvs.map (·.1) = ks → IsL K α F (kvs.map (·.2)) ds → Is K α F (.ref a) (.dct ks ds)
  | ins {a C dx : Addr} {fv : List (Str × V)} {fs : List Str} {ds : List D} : F a = some (.ins C dx fv) → fv.map (·.1) = fs → IsL K α F (fv.map (·.2)) ds → Is K α F (.ref a) (.ins C fs ds)
  | loc {a : Addr} {k : Nat} : α[k]? = some a → Is K α F (.ref a) (.loc k)
  | vv (x : V) : Is K α F x (.vv x)
inductive IsL (K : PySem.W.Frag) (α : List Addr) (F : Hp) : List V → List D → Prop
  | nil : IsL K α F [] []
  | cons {v : V} {vs : List V} {d : D} {ds : List D} : Is K α F v d → IsL K α F vs ds → IsL K α F (v :: vs) (d :: ds)
end

section
variable {K : PySem.W.Frag} {γ : Hp} {α α' : List Addr} {F F' H H' : Hp}
theorem rd_mono {a : Addr} {u : HO} (e : Same F F') (h : Rd F a u) : Rd F' a u := by
  rcases h with h | ⟨o, h⟩
  · exact .inl (e _ _ h)
  · exact .inr ⟨o, e _ _ h⟩
theorem sqt_mono {a : Addr} {xs : List V} (e : Same F F') (h : SqT K F a xs) : SqT K F' a xs := by
  rcases h with h | h
  · exact .inl (rd_mono e h)
  · exact .inr h
theorem rdd_mono {a : Addr} {kvs : List (Key × V)} (e : Same F F') (h : RdD F a kvs) : RdD F' a kvs := rd_mono e h
theorem fzd_mono {a : Addr} {kvs : List (Key × V)} (e : Same F F') (h : FzD F a kvs) : FzD F' a kvs := let ⟨o, h⟩ := h; ⟨o, e _ _ h⟩
theorem pre_get {k : Nat} {a : Addr} (p : α <+: α') (h : α[k]? = some a) : α'[k]? = some a := by
  obtain ⟨t, rfl⟩ := p
  rw [List.getElem?_append_left (List.getElem?_eq_some_iff.mp h).1]
  exact h
mutual
theorem Is.mono (p : α <+: α') (e : Same F F') : ∀ {v : V} {d : D}, Is K α F v d → Is K α' F' v d
  | _, _, .non => .non
  | _, _, .bl b => .bl b
  | _, _, .int i => .int i
  | _, _, .str s => .str s
  | _, _, .tup h l => .tup (sqt_mono e h) (IsL.mono p e l)
  | _, _, .lst h l => .lst (e _ _ h) (IsL.mono p e l)
  | _, _, .frl h l => .frl (e.seq h) (IsL.mono p e l)
  | _, _, .dct h q l => .dct (fzd_mono e h) q (IsL.mono p e l)
  | _, _, .ins h q l => .ins (e _ _ h) q (IsL.mono p e l)
  | _, _, .loc h => .loc (pre_get p h)
  | _, _, .vv x => .vv x
theorem IsL.mono (p : α <+: α') (e : Same F F') : ∀ {vs : List V} {ds : List D}, IsL K α F vs ds → IsL K α' F' vs ds
  | _, _, .nil => .nil
  | _, _, .cons h l => .cons (Is.mono p e h) (IsL.mono p e l)
end
theorem IsL.length : ∀ {vs : List V} {ds : List D}, IsL K α F vs ds → vs.length = ds.length
  | _, _, .nil => rfl
  | _, _, .cons _ l => by rw [List.length_cons, List.length_cons, IsL.length l]
theorem IsL.get : ∀ {vs : List V} {ds : List D} {i : Nat} {d : D}, IsL K α F vs ds → ds[i]? = some d → ∃ v, vs[i]? = some v ∧ Is K α F v d
  | _, _, _, _, .nil, e => by simp at e
  | _, _, 0, _, .cons h _, e => by simp at e; subst e; exact ⟨_, rfl, h⟩
  | _, _, i + 1, d, .cons _ l, e => by
    obtain ⟨v, h1, h2⟩ := IsL.get (i := i) (d := d) l (by simpa using e)
    exact ⟨v, by simpa using h1, h2⟩
theorem IsL.getV : ∀ {vs : List V} {ds : List D} {i : Nat} {v : V}, IsL K α F vs ds → vs[i]? = some v → ∃ d, ds[i]? = some d ∧ Is K α F v d
  | _, _, _, _, .nil, e => by simp at e
  | _, _, 0, _, .cons h _, e => by simp at e; subst e; exact ⟨_, rfl, h⟩
  | _, _, i + 1, v, .cons _ l, e => by
    obtain ⟨d, h1, h2⟩ := IsL.getV (i := i) (v := v) l (by simpa using e)
    exact ⟨d, by simpa using h1, h2⟩
theorem IsL.append : ∀ {vs ws : List V} {ds es : List D}, IsL K α F vs ds → IsL K α F ws es → IsL K α F (vs ++ ws) (ds ++ es)
  | _, _, _, _, .nil, m => m
  | _, _, _, _, .cons h l, m => .cons h (IsL.append l m)
theorem IsL.take : ∀ {vs : List V} {ds : List D} (n : Nat), IsL K α F vs ds → IsL K α F (vs.take n) (ds.take n)
  | _, _, 0, _ => .nil
  | _, _, _ + 1, .nil => .nil
  | _, _, n + 1, .cons h l => .cons h (IsL.take n l)
theorem IsL.drop : ∀ {vs : List V} {ds : List D} (n : Nat), IsL K α F vs ds → IsL K α F (vs.drop n) (ds.drop n)
  | _, _, 0, m => m
  | _, _, _ + 1, .nil => .nil
  | _, _, n + 1, .cons _ l => IsL.drop n l
theorem IsL.set {v : V} {d : D} (h : Is K α F v d) : ∀ {vs : List V} {ds : List D} (n : Nat), IsL K α F vs ds → IsL K α F (vs.set n v) (ds.set n d)
  | _, _, _, .nil => .nil
  | _, _, 0, .cons _ l => .cons h l
  | _, _, n + 1, .cons q l => .cons q (IsL.set h n l)
theorem IsL.ints : ∀ (ns : List Int), IsL K α F (ns.map V.int) (ns.map D.int)
  | [] => .nil
  | n :: r => .cons (.int n) (IsL.ints r)

/-! ### places that occur -/
mutual
def D.sc (n : Nat) : D → Bool
  | .tup xs => scL n xs
  | .lst xs => scL n xs
  | .frl xs => scL n xs
  | .dct _ xs => scL n xs
  | .ins _ _ xs => scL n xs
  | .loc k => decide (k < n)
  | _ => true
def scL (n : Nat) : List D → Bool
  | [] => true
  | x :: xs => x.sc n && scL n xs
end
def Ob.sc (n : Nat) : Ob → Bool
  | .lst xs => scL n xs
  | .dct _ xs => scL n xs
  | .ins _ _ xs => scL n xs
  | .dead => true
mutual
theorem Is.scoped : ∀ {v : V} {d : D}, Is K α F v d → d.sc α.length = true
  | _, _, .non => by simp [D.sc]
  | _, _, .bl b => by simp [D.sc]
  | _, _, .int i => by simp [D.sc]
  | _, _, .str s => by simp [D.sc]
  | _, _, .tup h l => by rw [D.sc]; exact IsL.scoped l
  | _, _, .lst h l => by rw [D.sc]; exact IsL.scoped l
  | _, _, .frl h l => by rw [D.sc]; exact IsL.scoped l
  | _, _, .dct h q l => by rw [D.sc]; exact IsL.scoped l
  | _, _, .ins h q l => by rw [D.sc]; exact IsL.scoped l
  | _, _, .loc h => by rw [D.sc]; exact decide_eq_true (List.getElem?_eq_some_iff.mp h).1
  | _, _, .vv x => by simp [D.sc]
theorem IsL.scoped : ∀ {vs : List V} {ds : List D}, IsL K α F vs ds → scL α.length ds = true
  | _, _, .nil => by simp [scL]
  | _, _, .cons h l => by rw [scL, Is.scoped h, IsL.scoped l]; rfl
end
mutual
theorem Is.cut {n : Nat} : ∀ {v : V} {d : D}, Is K α F v d → d.sc n = true → Is K (α.take n) F v d
  | _, _, .non, _ => .non
  | _, _, .bl b, _ => .bl b
  | _, _, .int i, _ => .int i
  | _, _, .str s, _ => .str s
  | _, _, .tup h l, e => .tup h (IsL.cut l (by rw [D.sc] at e; exact e))
  | _, _, .lst h l, e => .lst h (IsL.cut l (by rw [D.sc] at e; exact e))
  | _, _, .frl h l, e => .frl h (IsL.cut l (by rw [D.sc] at e; exact e))
  | _, _, .dct h q l, e => .dct h q (IsL.cut l (by rw [D.sc] at e; exact e))
  | _, _, .ins h q l, e => .ins h q (IsL.cut l (by rw [D.sc] at e; exact e))
  | _, _, .loc h, e => .loc (by rw [D.sc] at e; rw [List.getElem?_take_of_lt (of_decide_eq_true e)]; exact h)
  | _, _, .vv x, _ => .vv x
theorem IsL.cut {n : Nat} : ∀ {vs : List V} {ds : List D}, IsL K α F vs ds → scL n ds = true → IsL K (α.take n) F vs ds
  | _, _, .nil, _ => .nil
  | _, _, .cons h l, e => by
    rw [scL, Bool.and_eq_true] at e
    exact .cons (Is.cut h e.1) (IsL.cut l e.2)
end

/-! ### the store -/
def ObIs (K : PySem.W.Frag) (α : List Addr) (F H : Hp) (a : Addr) : Ob → Prop
  | .lst ds => ∃ vs, H a = some (.lst vs) ∧ IsL K α F vs ds
  | .dct ks ds => ∃ kvs, H a = some (.dK kvs) ∧ kvs.map (·.1) = ks ∧ IsL K α F (kvs.map (·.2)) ds
  | .ins C fs ds => ∃ dx fv, H a = some (.ins C dx fv) ∧ fv.map (·.1) = fs ∧ IsL K α F (fv.map (·.2)) ds
  | .dead => True
theorem ObIs.mono {a : Addr} {o : Ob} (p : α <+: α') (e : Same F F') (q : H' a = H a) (h : ObIs K α F H a o) : ObIs K α' F' H' a o := by
  cases o with
  | lst ds => obtain ⟨vs, h1, h2⟩ := h; exact ⟨vs, q.trans h1, h2.mono p e⟩
  | dct ks ds => obtain ⟨kvs, h1, h2, h3⟩ := h; exact ⟨kvs, q.trans h1, h2, h3.mono p e⟩
  | ins C fs ds => obtain ⟨dx, fv, h1, h2, h3⟩ := h; exact ⟨dx, fv, q.trans h1, h2, h3.mono p e⟩
  | dead => trivial
theorem ObIs.scoped {a : Addr} {o : Ob} (h : ObIs K α F H a o) : o.sc α.length = true := by
  cases o with
  | lst ds => obtain ⟨vs, h1, h2⟩ := h; exact h2.scoped
  | dct ks ds => obtain ⟨kvs, h1, h2, h3⟩ := h; exact h3.scoped
  | ins C fs ds => obtain ⟨dx, fv, h1, h2, h3⟩ := h; exact h3.scoped
  | dead => rfl
theorem ObIs.cut {a : Addr} {o : Ob} {n : Nat} (h : ObIs K α F H a o) (e : o.sc n = true) : ObIs K (α.take n) F H a o := by
  cases o with
  | lst ds => obtain ⟨vs, h1, h2⟩ := h; exact ⟨vs, h1, h2.cut e⟩
  | dct ks ds => obtain ⟨kvs, h1, h2, h3⟩ := h; exact ⟨kvs, h1, h2, h3.cut e⟩
  | ins C fs ds => obtain ⟨dx, fv, h1, h2, h3⟩ := h; exact ⟨dx, fv, h1, h2, h3.cut e⟩
  | dead => trivial

structure Wd (K : PySem.W.Frag) (γ : Hp) (α : List Addr) (F H : Hp) (μ : List Ob) : Prop where
  len : α.length = μ.length
  inj : ∀ (i j : Nat) a, α[i]? = some a → α[j]? = some a → i = j
  sub : Same F H
  there : ∀ (k : Nat) a, α[k]? = some a → H a ≠ none
  apart : ∀ (k : Nat) a o, α[k]? = some a → μ[k]? = some o → o ≠ .dead → F a = none
  obj : ∀ (k : Nat) a o, α[k]? = some a → μ[k]? = some o → ObIs K α F H a o
  gs : Same γ H
  gf : ∀ a, γ a ≠ none → F a = none
  ga : ∀ (k : Nat) a, α[k]? = some a → γ a = none

variable {μ : List Ob}
theorem ObIs.ne {a p : Addr} {o : Ob} (h : ObIs K α F H a o) (hd : o ≠ .dead) (hp : H p = none) : a ≠ p := by
  rintro rfl
  cases o with
  | lst ds => obtain ⟨vs, h1, h2⟩ := h; rw [hp] at h1; cases h1
  | dct ks ds => obtain ⟨kvs, h1, h2, h3⟩ := h; rw [hp] at h1; cases h1
  | ins C fs ds => obtain ⟨dx, fv, h1, h2, h3⟩ := h; rw [hp] at h1; cases h1
  | dead => exact hd rfl
theorem same_upd {p : Addr} {o : HO} (e : Same F H) (h : F p = none) : Same F (upd H p o) := fun b u hb => by
  rw [upd_ne (ne_of_none hb h)]
  exact e b u hb
theorem same_new {p : Addr} {o : HO} (h : F p = none) : Same F (upd F p o) := same_upd (Same.refl F) h
theorem same_both {p : Addr} {o : HO} (e : Same F H) : Same (upd F p o) (upd H p o) := fun b u hb => by
  by_cases hq : b = p
  · subst hq
    rw [upd_same] at hb ⊢
    exact hb
  · rw [upd_ne hq] at hb ⊢
    exact e b u hb
/-- something that stands still is laid -/
theorem Wd.lay {p : Addr} {o : HO} (w : Wd K γ α F H μ) (hp : H p = none) : Wd K γ α (upd F p o) (upd H p o) μ where
  len := w.len
  inj := w.inj
  sub := same_both w.sub
  there := fun k a h => by
    have := w.there k a h
    have ne : a ≠ p := fun e => this (by rw [e]; exact hp)
    rw [upd_ne ne]
    exact this
  apart := fun k a ob h1 h2 h3 => by
    rw [upd_ne ((w.obj k a ob h1 h2).ne h3 hp)]
    exact w.apart k a ob h1 h2 h3
  obj := fun k a ob h1 h2 => by
    have fp : F p = none := w.sub.free hp
    have ne : a ≠ p := fun e => w.there k a h1 (by rw [e]; exact hp)
    exact (w.obj k a ob h1 h2).mono (List.prefix_refl _) (same_new fp) (upd_ne ne)
  gs := same_upd w.gs (w.gs.free hp)
  gf := fun a h => by
    have ne : a ≠ p := fun e => h (by rw [e]; exact w.gs.free hp)
    rw [upd_ne ne]
    exact w.gf a h
  ga := w.ga
/-- .. that is not told -/
theorem Wd.lay0 {p : Addr} {o : HO} (w : Wd K γ α F H μ) (hp : H p = none) : Wd K γ α F (upd H p o) μ where
  len := w.len
  inj := w.inj
  sub := same_upd w.sub (w.sub.free hp)
  there := fun k a h => by
    have := w.there k a h
    have ne : a ≠ p := fun e => this (by rw [e]; exact hp)
    rw [upd_ne ne]
    exact this
  apart := w.apart
  obj := fun k a ob h1 h2 => by
    have ne : a ≠ p := fun e => w.there k a h1 (by rw [e]; exact hp)
    exact (w.obj k a ob h1 h2).mono (List.prefix_refl _) (Same.refl F) (upd_ne ne)
  gs := same_upd w.gs (w.gs.free hp)
  gf := w.gf
  ga := w.ga
/-- a new object of the store -/
theorem Wd.new {p : Addr} {o : HO} {ob : Ob} (w : Wd K γ α F H μ) (hp : H p = none) (h : ObIs K (α ++ [p]) F (upd H p o) p ob) : Wd K γ (α ++ [p]) F (upd H p o) (μ ++ [ob]) := by
  have fp : F p = none := w.sub.free hp
  have nin : ∀ k a, α[k]? = some a → a ≠ p := fun k a h1 e => w.there k a h1 (by rw [e]; exact hp)
  have spl : ∀ (k : Nat) a, (α ++ [p])[k]? = some a → α[k]? = some a ∨ (k = α.length ∧ a = p) := fun k a h1 => by
    by_cases hk : k < α.length
    · rw [List.getElem?_append_left hk] at h1
      exact .inl h1
    · have hl := (List.getElem?_eq_some_iff.mp h1).1
      rw [List.length_append, List.length_singleton] at hl
      have e : k = α.length := by omega
      subst e
      rw [List.getElem?_concat_length] at h1
      exact .inr ⟨rfl, (Option.some.inj h1).symm⟩
  refine ⟨by rw [List.length_append, List.length_append, w.len]; rfl, fun i j a h1 h2 => ?_, same_upd w.sub fp, fun k a h1 => ?_, fun k a ob' h1 h2 h3 => ?_, fun k a ob' h1 h2 => ?_, same_upd w.gs (w.gs.free hp), w.gf, fun k a h1 => ?_⟩
  · rcases spl i a h1 with x | ⟨x, y⟩ <;> rcases spl j a h2 with z | ⟨z, u⟩
    · exact w.inj i j a x z
    · exact absurd u (nin i a x)
    · exact absurd y (nin j a z)
    · rw [x, z]
  · rcases spl k a h1 with x | ⟨x, y⟩
    · rw [upd_ne (nin k a x)]
      exact w.there k a x
    · rw [y, upd_same]
      exact Option.some_ne_none _
  · rcases spl k a h1 with x | ⟨x, y⟩
    · have hk := (List.getElem?_eq_some_iff.mp x).1
      rw [w.len] at hk
      rw [List.getElem?_append_left hk] at h2
      exact w.apart k a ob' x h2 h3
    · rw [y]; exact fp
  · rcases spl k a h1 with x | ⟨x, y⟩
    · have hk := (List.getElem?_eq_some_iff.mp x).1
      rw [w.len] at hk
      rw [List.getElem?_append_left hk] at h2
      exact (w.obj k a ob' x h2).mono (List.prefix_append _ _) (Same.refl F) (upd_ne (nin k a x))
    · rw [x, w.len, List.getElem?_concat_length] at h2
      cases h2
      rw [y]
      exact h
  · rcases spl k a h1 with x | ⟨x, y⟩
    · exact w.ga k a x
    · rw [y]; exact w.gs.free hp
/-- an object of the store is changed -/
theorem Wd.put {a : Addr} {k : Nat} {o : HO} {ob ob' : Ob} (w : Wd K γ α F H μ) (ha : α[k]? = some a) (hk : μ[k]? = some ob) (hl : ob ≠ .dead) (h : ObIs K α F (upd H a o) a ob') : Wd K γ α F (upd H a o) (μ.set k ob') := by
  have fa : F a = none := w.apart k a ob ha hk hl
  have klt : k < μ.length := (List.getElem?_eq_some_iff.mp hk).1
  refine ⟨by rw [List.length_set]; exact w.len, w.inj, same_upd w.sub fa, fun j b h1 => ?_, fun j b ob2 h1 h2 h3 => ?_, fun j b ob2 h1 h2 => ?_, same_upd w.gs (w.ga k a ha), w.gf, w.ga⟩
  · by_cases e : b = a
    · rw [e, upd_same]; exact Option.some_ne_none _
    · rw [upd_ne e]; exact w.there j b h1
  · by_cases e : j = k
    · subst e
      rw [ha] at h1; cases h1
      exact fa
    · rw [List.getElem?_set_ne (Ne.symm e)] at h2
      exact w.apart j b ob2 h1 h2 h3
  · by_cases e : j = k
    · subst e
      rw [ha] at h1; cases h1
      rw [List.getElem?_set_self klt] at h2
      cases h2
      exact h
    · rw [List.getElem?_set_ne (Ne.symm e)] at h2
      have ne : b ≠ a := fun q => e (w.inj j k b h1 (by rw [q]; exact ha))
      exact (w.obj j b ob2 h1 h2).mono (List.prefix_refl _) (Same.refl F) (upd_ne ne)
/-- an object of the store stands still from now on -/
theorem Wd.frz {a : Addr} {k : Nat} {o : HO} {ob : Ob} (w : Wd K γ α F H μ) (ha : α[k]? = some a) (hk : μ[k]? = some ob) (hl : ob ≠ .dead) : Wd K γ α (upd F a o) (upd H a o) (μ.set k .dead) := by
  have fa : F a = none := w.apart k a ob ha hk hl
  have klt : k < μ.length := (List.getElem?_eq_some_iff.mp hk).1
  refine ⟨by rw [List.length_set]; exact w.len, w.inj, same_both w.sub, fun j b h1 => ?_, fun j b ob2 h1 h2 h3 => ?_, fun j b ob2 h1 h2 => ?_, same_upd w.gs (w.ga k a ha), fun b h1 => ?_, w.ga⟩
  · by_cases e : b = a
    · rw [e, upd_same]; exact Option.some_ne_none _
    · rw [upd_ne e]; exact w.there j b h1
  · by_cases e : j = k
    · subst e
      rw [List.getElem?_set_self klt] at h2
      cases h2
      exact absurd rfl h3
    · rw [List.getElem?_set_ne (Ne.symm e)] at h2
      have ne : b ≠ a := fun q => e (w.inj j k b h1 (by rw [q]; exact ha))
      rw [upd_ne ne]
      exact w.apart j b ob2 h1 h2 h3
  · by_cases e : j = k
    · subst e
      rw [List.getElem?_set_self klt] at h2
      cases h2
      trivial
    · rw [List.getElem?_set_ne (Ne.symm e)] at h2
      have ne : b ≠ a := fun q => e (w.inj j k b h1 (by rw [q]; exact ha))
      exact (w.obj j b ob2 h1 h2).mono (List.prefix_refl _) (same_new fa) (upd_ne ne)
  · have ne : b ≠ a := fun e => h1 (by rw [e]; exact w.ga k a ha)
    rw [upd_ne ne]
    exact w.gf b h1
theorem upd_id {a : Addr} {o : HO} (h : H a = some o) : upd H a o = H := by
  funext b
  by_cases e : b = a
  · rw [e, upd_same, h]
  · rw [upd_ne e]
/-- what was made on the way is forgotten -/
theorem Wd.cut {n : Nat} (w : Wd K γ α F H μ) (h : ∀ (k : Nat) o, k < n → μ[k]? = some o → o.sc n = true) : Wd K γ (α.take n) F H (μ.take n) := by
  have tk : ∀ (k : Nat) a, (α.take n)[k]? = some a → k < n ∧ α[k]? = some a := fun k a e => by
    have hl := (List.getElem?_eq_some_iff.mp e).1
    rw [List.length_take] at hl
    have hk : k < n := by omega
    rw [List.getElem?_take_of_lt hk] at e
    exact ⟨hk, e⟩
  refine ⟨by rw [List.length_take, List.length_take, w.len], fun i j a h1 h2 => w.inj i j a (tk i a h1).2 (tk j a h2).2, w.sub, fun k a h1 => w.there k a (tk k a h1).2, fun k a o h1 h2 h3 => ?_, fun k a o h1 h2 => ?_, w.gs, w.gf, fun k a h1 => w.ga k a (tk k a h1).2⟩
  · obtain ⟨hk, q⟩ := tk k a h1
    rw [List.getElem?_take_of_lt hk] at h2
    exact w.apart k a o q h2 h3
  · obtain ⟨hk, q⟩ := tk k a h1
    rw [List.getElem?_take_of_lt hk] at h2
    exact (w.obj k a o q h2).cut (h k o hk h2)
end
end DL

/-! The data layer, b: readings of expressions as functions. -/
namespace DL
open PySem L2

structure Exn where
  cls : Value
  fs : List Str
  xs : List D
inductive R (β : Type) where
  | ok (b : β) (μ : List Ob)
  | exc (x : Exn) (μ : List Ob)
  | bad
def R.bind {β τ : Type} (r : R β) (f : β → List Ob → R τ) : R τ := match r with
  | .ok b μ => f b μ
  | .exc x μ => .exc x μ
  | .bad => .bad
@[simp] theorem R.ok_bind {β τ : Type} (b : β) (μ : List Ob) (f : β → List Ob → R τ) : (R.ok b μ).bind f = f b μ := rfl
@[simp] theorem R.exc_bind {β τ : Type} (x : Exn) (μ : List Ob) (f : β → List Ob → R τ) : (R.exc x μ : R β).bind f = .exc x μ := rfl
@[simp] theorem R.bad_bind {β τ : Type} (f : β → List Ob → R τ) : (R.bad : R β).bind f = .bad := rfl

abbrev Sl := List (Option D)
abbrev RE := Sl → List Ob → R D
abbrev RT := Sl → List Ob → R Bool
abbrev RA := Sl → List Ob → R (List D)

structure SlIs (K : PySem.W.Frag) (α : List Addr) (F : Hp) (σ : St) (δ : Sl) : Prop where
  len : σ.length = δ.length
  at_ : ∀ (i : Nat) d, δ[i]? = some (some d) → ∃ v, σ[i]? = some (some v) ∧ Is K α F v d

section
variable {K : PySem.W.Frag} {γ : Hp} {α α' α1 : List Addr} {F F' F1 H H' : Hp} {σ : St} {δ : Sl} {μ : List Ob}
theorem SlIs.mono (s : SlIs K α F σ δ) (p : α <+: α') (e : Same F F') : SlIs K α' F' σ δ :=
  ⟨s.len, fun i d h => let ⟨v, h1, h2⟩ := s.at_ i d h; ⟨v, h1, h2.mono p e⟩⟩
theorem SlIs.set {v : V} {d : D} (s : SlIs K α F σ δ) (i : Nat) (h : Is K α F v d) : SlIs K α F (σ.set i (some v)) (δ.set i (some d)) := by
  refine ⟨by rw [List.length_set, List.length_set]; exact s.len, fun j e q => ?_⟩
  by_cases hj : j = i
  · subst hj
    have hl : j < δ.length := by
      have := (List.getElem?_eq_some_iff.mp q).1
      rw [List.length_set] at this
      exact this
    rw [List.getElem?_set_self hl] at q
    cases q
    exact ⟨v, List.getElem?_set_self (by rw [s.len]; exact hl), h⟩
  · rw [List.getElem?_set_ne (Ne.symm hj)] at q
    obtain ⟨u, h1, h2⟩ := s.at_ j e q
    exact ⟨u, by rw [List.getElem?_set_ne (Ne.symm hj)]; exact h1, h2⟩
theorem SlIs.unset (s : SlIs K α F σ δ) (i : Nat) : SlIs K α F (σ.set i none) (δ.set i none) := by
  refine ⟨by rw [List.length_set, List.length_set]; exact s.len, fun j e q => ?_⟩
  by_cases hj : j = i
  · subst hj
    have hl : j < δ.length := by
      have := (List.getElem?_eq_some_iff.mp q).1
      rw [List.length_set] at this
      exact this
    rw [List.getElem?_set_self hl] at q
    cases q
  · rw [List.getElem?_set_ne (Ne.symm hj)] at q
    obtain ⟨u, h1, h2⟩ := s.at_ j e q
    exact ⟨u, by rw [List.getElem?_set_ne (Ne.symm hj)]; exact h1, h2⟩
/-- the slots vs forgotten -/
def wipeD (δ : Sl) : List Nat → Sl
  | [] => δ
  | v :: vs => (wipeD δ vs).set v none
theorem SlIs.wipe (s : SlIs K α F σ δ) : ∀ vs : List Nat, SlIs K α F (L2.wipe σ vs) (wipeD δ vs)
  | [] => s
  | v :: vs => (SlIs.wipe s vs).unset v

/-- an exception as it lies -/
def XIs (K : PySem.W.Frag) (α : List Addr) (F : Hp) (x : Exn) (c : Value) (dd : Option Addr) : Prop :=
  c = x.cls ∧ ((dd = none ∧ x.fs = [] ∧ x.xs = []) ∨ ∃ d fv, dd = some d ∧ F d = some (.xd fv) ∧ fv.map (·.1) = x.fs ∧ IsL K α F (fv.map (·.2)) x.xs)
theorem XIs.mono {x : Exn} {c : Value} {dd : Option Addr} (h : XIs K α F x c dd) (p : α <+: α') (e : Same F F') : XIs K α' F' x c dd := by
  obtain ⟨h1, h2 | ⟨d, fv, h3, h4, h5, h6⟩⟩ := h
  · exact ⟨h1, .inl h2⟩
  · exact ⟨h1, .inr ⟨d, fv, h3, e _ _ h4, h5, h6.mono p e⟩⟩

/-- how a reading ends: ok's wish, an exception's wish -/
def Fin {β : Type} (K : PySem.W.Frag) (γ : Hp) (α : List Addr) (F : Hp) (r : R β) (ok : β → List Ob → List Addr → Hp → Hp → Prop) (E : XK) : Prop :=
  match r with
  | .ok b μ => ∀ α' F' H', α <+: α' → Same F F' → Wd K γ α' F' H' μ → ok b μ α' F' H'
  | .exc x μ => ∀ α' F' H' c dd, α <+: α' → Same F F' → Wd K γ α' F' H' μ → XIs K α' F' x c dd → E c dd H'
  | .bad => False
abbrev okD (K : PySem.W.Frag) (Q : VK) : D → List Ob → List Addr → Hp → Hp → Prop := fun d _ α' F' H' => ∀ v, Is K α' F' v d → Q v H'
abbrev okB (Q : Bool → Hp → Prop) : Bool → List Ob → List Addr → Hp → Hp → Prop := fun b _ _ _ H' => Q b H'
abbrev okL (K : PySem.W.Frag) (Q : List V → Hp → Prop) : List D → List Ob → List Addr → Hp → Hp → Prop := fun ds _ α' F' H' => ∀ vs, IsL K α' F' vs ds → Q vs H'
theorem Fin.up {β : Type} {r : R β} {ok : β → List Ob → List Addr → Hp → Hp → Prop} {E : XK} (p : α <+: α1) (e : Same F F1) (h : Fin K γ α F r ok E) : Fin K γ α1 F1 r ok E := by
  cases r with
  | ok b μ => exact fun α' F' H' p' e' w => h α' F' H' (p.trans p') (e.trans e') w
  | exc x μ => exact fun α' F' H' c dd p' e' w q => h α' F' H' c dd (p.trans p') (e.trans e') w q
  | bad => exact h

def tD (K : PySem.W.Frag) (W : WX) (f : RE) : TE := fun σ H Q => ∃ γ α F μ δ, Wd K γ α F H μ ∧ SlIs K α F σ δ ∧ Fin K γ α F (f δ μ) (okD K Q) (fun c dd H' => W c dd σ H')
def tDT (K : PySem.W.Frag) (W : WX) (f : RT) : TT := fun σ H Q => ∃ γ α F μ δ, Wd K γ α F H μ ∧ SlIs K α F σ δ ∧ Fin K γ α F (f δ μ) (okB Q) (fun c dd H' => W c dd σ H')
def tDA (K : PySem.W.Frag) (W : WX) (f : RA) : TA := fun σ H Q => ∃ γ α F μ δ, Wd K γ α F H μ ∧ SlIs K α F σ δ ∧ Fin K γ α F (f δ μ) (okL K Q) (fun c dd H' => W c dd σ H')

variable {W : WX}
/-- the step: what f gives is handed on -/
theorem tD_go {τ : Type} {f : RE} {g : D → List Ob → R τ} {ok : τ → List Ob → List Addr → Hp → Hp → Prop} {Q : VK} (w : Wd K γ α F H μ) (s : SlIs K α F σ δ) (q : Fin K γ α F ((f δ μ).bind g) ok (fun c dd H' => W c dd σ H'))
    (k : ∀ d μ1 α1 F1 H1 v, α <+: α1 → Same F F1 → Wd K γ α1 F1 H1 μ1 → SlIs K α1 F1 σ δ → Is K α1 F1 v d → Fin K γ α1 F1 (g d μ1) ok (fun c dd H' => W c dd σ H') → Q v H1) : tD K W f σ H Q := by
  refine ⟨γ, α, F, μ, δ, w, s, ?_⟩
  cases hf : f δ μ with
  | ok d μ1 =>
    rw [hf] at q
    exact fun α1 F1 H1 p e w1 v hv => k d μ1 α1 F1 H1 v p e w1 (s.mono p e) hv (q.up p e)
  | exc x μ1 =>
    rw [hf] at q
    exact q
  | bad =>
    rw [hf] at q
    exact q
theorem tDT_go {τ : Type} {f : RT} {g : Bool → List Ob → R τ} {ok : τ → List Ob → List Addr → Hp → Hp → Prop} {Q : Bool → Hp → Prop} (w : Wd K γ α F H μ) (s : SlIs K α F σ δ) (q : Fin K γ α F ((f δ μ).bind g) ok (fun c dd H' => W c dd σ H'))
    (k : ∀ b μ1 α1 F1 H1, α <+: α1 → Same F F1 → Wd K γ α1 F1 H1 μ1 → SlIs K α1 F1 σ δ → Fin K γ α1 F1 (g b μ1) ok (fun c dd H' => W c dd σ H') → Q b H1) : tDT K W f σ H Q := by
  refine ⟨γ, α, F, μ, δ, w, s, ?_⟩
  cases hf : f δ μ with
  | ok d μ1 =>
    rw [hf] at q
    exact fun α1 F1 H1 p e w1 => k d μ1 α1 F1 H1 p e w1 (s.mono p e) (q.up p e)
  | exc x μ1 =>
    rw [hf] at q
    exact q
  | bad =>
    rw [hf] at q
    exact q
theorem tDA_go {τ : Type} {f : RA} {g : List D → List Ob → R τ} {ok : τ → List Ob → List Addr → Hp → Hp → Prop} {Q : List V → Hp → Prop} (w : Wd K γ α F H μ) (s : SlIs K α F σ δ) (q : Fin K γ α F ((f δ μ).bind g) ok (fun c dd H' => W c dd σ H'))
    (k : ∀ ds μ1 α1 F1 H1 vs, α <+: α1 → Same F F1 → Wd K γ α1 F1 H1 μ1 → SlIs K α1 F1 σ δ → IsL K α1 F1 vs ds → Fin K γ α1 F1 (g ds μ1) ok (fun c dd H' => W c dd σ H') → Q vs H1) : tDA K W f σ H Q := by
  refine ⟨γ, α, F, μ, δ, w, s, ?_⟩
  cases hf : f δ μ with
  | ok d μ1 =>
    rw [hf] at q
    exact fun α1 F1 H1 p e w1 v hv => k d μ1 α1 F1 H1 v p e w1 (s.mono p e) hv (q.up p e)
  | exc x μ1 =>
    rw [hf] at q
    exact q
  | bad =>
    rw [hf] at q
    exact q
/-- .. the last step -/
theorem bind_pure {β : Type} (r : R β) : r.bind (fun b μ => .ok b μ) = r := by cases r <;> rfl

/-! ### an object looked at -/
def D.view (μ : List Ob) : D → D
  | .loc k => match μ[k]? with
    | some (.lst xs) => .lst xs
    | some (.dct ks xs) => .dct ks xs
    | some (.ins C fs xs) => .ins C fs xs
    | _ => .loc k
  | d => d
def Vw (K : PySem.W.Frag) (α : List Addr) (F H : Hp) (v : V) : D → Prop
  | .lst ds => ∃ a vs, v = .ref a ∧ H a = some (.lst vs) ∧ IsL K α F vs ds
  | .frl ds => ∃ a vs, v = .ref a ∧ SqL K H a vs ∧ IsL K α F vs ds
  | .tup ds => ∃ a vs, v = .ref a ∧ SqT K H a vs ∧ IsL K α F vs ds
  | .dct ks ds => ∃ a kvs, v = .ref a ∧ RdD H a kvs ∧ kvs.map (·.1) = ks ∧ IsL K α F (kvs.map (·.2)) ds
  | .ins C fs ds => ∃ a dx fv, v = .ref a ∧ H a = some (.ins C dx fv) ∧ fv.map (·.1) = fs ∧ IsL K α F (fv.map (·.2)) ds
  | d => Is K α F v d
theorem view_loc {k : Nat} : (D.loc k).view μ = match μ[k]? with
    | some (.lst xs) => .lst xs
    | some (.dct ks xs) => .dct ks xs
    | some (.ins C fs xs) => .ins C fs xs
    | _ => .loc k := rfl
theorem Wd.view (w : Wd K γ α F H μ) {v : V} {d : D} (h : Is K α F v d) : Vw K α F H v (d.view μ) := by
  cases h with
  | loc hk =>
    rename_i a k
    cases hm : μ[k]? with
    | none =>
      have e : (D.loc k).view μ = .loc k := by rw [view_loc, hm]
      rw [e]
      exact Is.loc hk
    | some o =>
      have ho := w.obj k a o hk hm
      cases o with
      | lst ds =>
        have e : (D.loc k).view μ = .lst ds := by rw [view_loc, hm]
        rw [e]
        obtain ⟨vs, h1, h2⟩ := ho
        exact ⟨a, vs, rfl, h1, h2⟩
      | dct ks ds =>
        have e : (D.loc k).view μ = .dct ks ds := by rw [view_loc, hm]
        rw [e]
        obtain ⟨kvs, h1, h2, h3⟩ := ho
        exact ⟨a, kvs, rfl, .inl h1, h2, h3⟩
      | ins C fs ds =>
        have e : (D.loc k).view μ = .ins C fs ds := by rw [view_loc, hm]
        rw [e]
        obtain ⟨dx, fv, h1, h2, h3⟩ := ho
        exact ⟨a, dx, fv, rfl, h1, h2, h3⟩
      | dead =>
        have e : (D.loc k).view μ = .loc k := by rw [view_loc, hm]
        rw [e]
        exact Is.loc hk
  | non => exact Is.non
  | bl b => exact Is.bl b
  | int i => exact Is.int i
  | str s => exact Is.str s
  | tup h l => exact ⟨_, _, rfl, sqt_mono w.sub h, l⟩
  | lst h l => exact ⟨_, _, rfl, w.sub _ _ h, l⟩
  | frl h l => exact ⟨_, _, rfl, w.sub.seq h, l⟩
  | dct h q l => exact ⟨_, _, rfl, (fzd_mono w.sub h).rd, q, l⟩
  | ins h q l => exact ⟨_, _, _, rfl, w.sub _ _ h, q, l⟩
  | vv => exact Is.vv _
theorem Is.toInt {v : V} {i : Int} (h : Is K α F v (.int i)) : v = .int i := by cases h; rfl
theorem Is.toStr {v : V} {i : Str} (h : Is K α F v (.str i)) : v = .str i := by cases h; rfl
theorem Is.toBl {v : V} {i : Bool} (h : Is K α F v (.bl i)) : v = .bl i := by cases h; rfl
theorem Is.toNon {v : V} (h : Is K α F v .non) : v = .non := by cases h; rfl
theorem Is.toVv {v x : V} (h : Is K α F v (.vv x)) : v = x := by cases h; rfl
end

/-! ### rules: expressions -/
theorem pe_weak {X : Cx} {e : Expr} {t t' : TE} (h : PE X e t) (i : ∀ σ H Q, t' σ H Q → t σ H Q) : PE X e t' := ⟨fun pins s σ H Q I q => h.run pins s σ H Q I (i _ _ _ q)⟩
theorem pt_weak {X : Cx} {e : Expr} {t t' : TT} (h : PT X e t) (i : ∀ σ H Q, t' σ H Q → t σ H Q) : PT X e t' := ⟨fun pins s σ H Q I q => h.run pins s σ H Q I (i _ _ _ q)⟩
theorem pw_weak {X : Cx} {e : Expr} {t t' : TT} (h : PW X e t) (i : ∀ σ H Q, t' σ H Q → t σ H Q) : PW X e t' := ⟨fun wh pins s σ H Q I q => h.run wh pins s σ H Q I (i _ _ _ q)⟩
theorem pa_weak {X : Cx} {e : List Expr} {t t' : TA} (h : PA X e t) (i : ∀ σ H Q, t' σ H Q → t σ H Q) : PA X e t' := ⟨fun pos pins s σ H Q I q => h.run pos pins s σ H Q I (i _ _ _ q)⟩
abbrev PD (X : Cx) (W : WX) (e : Expr) (f : RE) : Prop := PE X e (tD X.K W f)
abbrev PDT (X : Cx) (W : WX) (e : Expr) (f : RT) : Prop := PT X e (tDT X.K W f)
abbrev PDW (X : Cx) (W : WX) (e : Expr) (f : RT) : Prop := PW X e (tDT X.K W f)
abbrev PDA (X : Cx) (W : WX) (es : List Expr) (f : RA) : Prop := PA X es (tDA X.K W f)

section
variable {X : Cx} {W : WX} {a b c e : Expr} {es : List Expr} {fa fb fc f : RE} {ft fu : RT} {fs : RA} {pos p : Pos}

def rVar (i : Nat) : RE := fun δ μ => match δ[i]? with
  | some (some d) => .ok d μ
  | _ => .bad
def rC (d : D) : RE := fun _ μ => .ok d μ
theorem pd_var (i : Nat) {x : Str} (hN : X.N[i]? = some x := by rfl) (hv : Vis X.env.scope x := by first | exact Or.inl rfl | exact Or.inr (Or.inl rfl) | exact Or.inr (Or.inr rfl)) (hd : (x == ("__debug__" : Str)) = false := by decide)
    (hcd : (x == ("__classdict__" : Str)) = false := by decide) : PD X W (.Name x pos) (rVar i) :=
  pe_weak (pe_var hN hv hd hcd) fun σ H Q ⟨γ, α, F, μ, δ, w, s, q⟩ => by
    unfold rVar at q
    cases hd : δ[i]? with
    | none => rw [hd] at q; exact q.elim
    | some o =>
      cases o with
      | none => rw [hd] at q; exact q.elim
      | some d =>
        rw [hd] at q
        obtain ⟨v, h1, h2⟩ := s.at_ i d hd
        exact ⟨v, h1, q α F H (List.prefix_refl _) (Same.refl F) w v h2⟩
theorem pd_c {v : V} {d : D} (h : PE X e (tC v)) (hv : ∀ α F, Is X.K α F v d) : PD X W e (rC d) :=
  pe_weak h fun σ H Q ⟨γ, α, F, μ, δ, w, s, q⟩ => q α F H (List.prefix_refl _) (Same.refl F) w v (hv α F)
theorem pd_int {i : Int} {j : Nat} : PD X W (.Constant (.int i) j pos) (rC (.int i)) := pd_c pe_int fun _ _ => .int i
theorem pd_bl {i : Bool} {j : Nat} : PD X W (.Constant (.bool i) j pos) (rC (.bl i)) := pd_c pe_bl fun _ _ => .bl i
theorem pd_non {j : Nat} : PD X W (.Constant .none j pos) (rC .non) := pd_c pe_non fun _ _ => .non
theorem pd_str {i : Str} {j : Nat} : PD X W (.Constant (.str i) j pos) (rC (.str i)) := pd_c pe_str fun _ _ => .str i
/-- a module's constant -/
theorem pd_glob {x : Str} {v : V} {u : Value} {d : D} (hg : Gl X x) (hm : X.mg x = some u) (r : RelV v u) (hv : ∀ α F, Is X.K α F v d) (hd : (x == ("__debug__" : Str)) = false := by decide) : PD X W (.Name x pos) (rC d) :=
  pd_c (pe_glob hg hm r hd) hv
/-- a built-in's name as a value -/
theorem pd_bltn {x : Str} {v : V} {u : Value} (hg : Gl X x) (hm : X.mg x = none) (hv : bootBuiltins x = some u) (r : RelV v u) (hn : x ≠ "__name__" := by decide) (hd : (x == ("__debug__" : Str)) = false := by decide) : PD X W (.Name x pos) (rC (.vv v)) :=
  pd_c (pe_bltn hg hm hv r hn hd) fun _ _ => .vv v

/-- two values, then an operation on them -/
def rBin (g : D → D → List Ob → R D) (fa fb : RE) : RE := fun δ μ => (fa δ μ).bind fun d μ1 => (fb δ μ1).bind fun e μ2 => g d e μ2
def Op2 (K : PySem.W.Frag) (r : R2) (g : D → D → List Ob → R D) : Prop :=
  ∀ γ α F H μ x y d e Q E, Wd K γ α F H μ → Is K α F x d → Is K α F y e → Fin K γ α F (g d e μ) (okD K Q) E → r x y H Q
theorem tD_bin {K : PySem.W.Frag} {r : R2} {g : D → D → List Ob → R D} (h : Op2 K r g) (σ : St) (H : Hp) (Q : VK) : tD K W (rBin g fa fb) σ H Q → tOp r (tD K W fa) (tD K W fb) σ H Q := fun ⟨γ, α, F, μ, δ, w, s, q⟩ =>
  tD_go w s q fun d μ1 α1 F1 H1 x p1 e1 w1 s1 hx q1 => tD_go w1 s1 q1 fun e μ2 α2 F2 H2 y p2 e2 w2 s2 hy q2 =>
    h γ α2 F2 H2 μ2 x y d e Q _ w2 (hx.mono p2 e2) hy q2
theorem pd_bin {op : Operator} {r : R2} {g : D → D → List Ob → R D} (ho : OpR X (binaryOp op) r) (h : Op2 X.K r g) (ha : PD X W a fa) (hb : PD X W b fb) : PD X W (.BinOp a op b pos) (rBin g fa fb) :=
  pe_weak (pe_op ho ha hb) (tD_bin h)
theorem pd_cmp {op : CmpOp} {r : R2} {g : D → D → List Ob → R D} (ho : OpR X (compareOp op) r) (h : Op2 X.K r g) (hm : behindInMarks op b = false) (ha : PD X W a fa) (hb : PD X W b fb) : PD X W (.Compare a [op] [b] pos) (rBin g fa fb) :=
  pe_weak (pe_cmpR ho ha hb hm) (tD_bin h)
/-- a value as a test, a True or False -/
def rT (f : RE) : RT := fun δ μ => (f δ μ).bind fun d μ1 => match d with
  | .bl b => .ok b μ1
  | _ => .bad
theorem tDT_of {K : PySem.W.Frag} {t : TE} (h : ∀ σ H Q, tD K W f σ H Q → t σ H Q) (σ : St) (H : Hp) (Q : Bool → Hp → Prop) : tDT K W (rT f) σ H Q → tTest t σ H Q := fun ⟨γ, α, F, μ, δ, w, s, q⟩ =>
  h σ H _ (tD_go w s q fun d μ1 α1 F1 H1 x p1 e1 w1 s1 hx q1 => by
    cases d with
    | bl b => cases hx; exact ⟨b, rfl, q1 α1 F1 H1 (List.prefix_refl _) (Same.refl F1) w1⟩
    | _ => exact q1.elim)
theorem pdt_cmp {op : CmpOp} {r : R2} {g : D → D → List Ob → R D} (ho : OpR X (compareOp op) r) (h : Op2 X.K r g) (hm : behindInMarks op b = false) (ha : PD X W a fa) (hb : PD X W b fb) : PDT X W (.Compare a [op] [b] pos) (rT (rBin g fa fb)) :=
  pt_weak (pt_cmpR ho ha hb hm) (tDT_of (tD_bin h))
theorem pdt_val (h : PD X W e f) (he : ∀ whole, isTrue e X.env whole = (do let v ← whole; standAt e.pos; holding [v] (truthy v)) := by intro _; rfl) : PDT X W e (rT f) :=
  pt_weak (pt_val h he) (tDT_of fun _ _ _ q => q)
/-- a op1 b op2 c -/
def rChain (g g' : D → D → List Ob → R D) (fa fb fc : RE) : RE := fun δ μ => (fa δ μ).bind fun d μ1 => (fb δ μ1).bind fun e μ2 => (g d e μ2).bind fun z μ3 => match z with
  | .bl true => (fc δ μ3).bind fun k μ4 => g' e k μ4
  | .bl false => .ok (.bl false) μ3
  | _ => .bad
theorem tD_chain {K : PySem.W.Frag} {r r' : R2} {g g' : D → D → List Ob → R D} (h : Op2 K r g) (h' : Op2 K r' g') (hn : ∀ d e μ x μ', g d e μ ≠ .exc x μ') (σ : St) (H : Hp) (Q : VK) :
    tD K W (rChain g g' fa fb fc) σ H Q → tChain r r' (tD K W fa) (tD K W fb) (tD K W fc) σ H Q := fun ⟨γ, α, F, μ, δ, w, s, q⟩ =>
  tD_go w s q fun d μ1 α1 F1 H1 x p1 e1 w1 s1 hx q1 => tD_go w1 s1 q1 fun e μ2 α2 F2 H2 y p2 e2 w2 s2 hy q2 => by
    refine h γ α2 F2 H2 μ2 x y d e _ (fun _ _ _ => False) w2 (hx.mono p2 e2) hy ?_
    cases hg : g d e μ2 with
    | ok z μ3 =>
      rw [hg] at q2
      intro α3 F3 H3 p3 e3 w3 v hv
      have q3 := Fin.up p3 e3 q2
      cases z with
      | bl k =>
        cases hv
        refine ⟨k, rfl, ?_⟩
        cases k with
        | true =>
          rw [if_pos rfl]
          refine tD_go w3 (s2.mono p3 e3) q3 fun k μ4 α4 F4 H4 z p4 e4 w4 s4 hz q4 => ?_
          exact h' γ α4 F4 H4 μ4 y z e k Q _ w4 (hy.mono (p3.trans p4) (e3.trans e4)) hz q4
        | false =>
          rw [if_neg Bool.false_ne_true]
          exact q3 α3 F3 H3 (List.prefix_refl _) (Same.refl F3) w3 _ (.bl false)
      | _ => exact q3.elim
    | exc x μ3 => exact absurd hg (hn _ _ _ _ _)
    | bad => rw [hg] at q2; exact q2.elim
theorem pd_chain {op op' : CmpOp} {r r' : R2} {g g' : D → D → List Ob → R D} (ho : OpR X (compareOp op) r) (ho' : OpR X (compareOp op') r') (h : Op2 X.K r g) (h' : Op2 X.K r' g') (hn : ∀ d e μ x μ', g d e μ ≠ .exc x μ')
    (ha : PD X W a fa) (hb : PD X W b fb) (hc : PD X W c fc) (hm : lastMarks [op, op'] [b, c] = false := by with_unfolding_all rfl) : PD X W (.Compare a [op, op'] [b, c] pos) (rChain g g' fa fb fc) :=
  pe_weak (pe_chain ho ho' ha hb hc hm) (tD_chain h h' hn)
theorem pdt_chain {op op' : CmpOp} {r r' : R2} {g g' : D → D → List Ob → R D} (ho : OpR X (compareOp op) r) (ho' : OpR X (compareOp op') r') (h : Op2 X.K r g) (h' : Op2 X.K r' g') (hn : ∀ d e μ x μ', g d e μ ≠ .exc x μ')
    (ha : PD X W a fa) (hb : PD X W b fb) (hc : PD X W c fc) (hm : lastMarks [op, op'] [b, c] = false := by with_unfolding_all rfl) : PDT X W (.Compare a [op, op'] [b, c] pos) (rT (rChain g g' fa fb fc)) :=
  pt_weak (pt_chain ho ho' ha hb hc hm) (tDT_of (tD_chain h h' hn))

/-! ### and, or, not -/
def rAndT (t u : RT) : RT := fun δ μ => (t δ μ).bind fun k μ1 => match k with
  | true => u δ μ1
  | false => .ok false μ1
def rOrT (t u : RT) : RT := fun δ μ => (t δ μ).bind fun k μ1 => match k with
  | true => .ok true μ1
  | false => u δ μ1
def rNotT (t : RT) : RT := fun δ μ => (t δ μ).bind fun k μ1 => .ok (!k) μ1
theorem tDT_last {K : PySem.W.Frag} {γ : Hp} {α : List Addr} {F H : Hp} {μ : List Ob} {σ : St} {δ : Sl} {t : RT} {Q : Bool → Hp → Prop} (w : Wd K γ α F H μ) (s : SlIs K α F σ δ) (q : Fin K γ α F (t δ μ) (okB Q) (fun c dd H' => W c dd σ H')) : tDT K W t σ H Q := ⟨γ, α, F, μ, δ, w, s, q⟩
theorem tD_last {K : PySem.W.Frag} {γ : Hp} {α : List Addr} {F H : Hp} {μ : List Ob} {σ : St} {δ : Sl} {t : RE} {Q : VK} (w : Wd K γ α F H μ) (s : SlIs K α F σ δ) (q : Fin K γ α F (t δ μ) (okD K Q) (fun c dd H' => W c dd σ H')) : tD K W t σ H Q := ⟨γ, α, F, μ, δ, w, s, q⟩
theorem pdw_and1 (ha : PDT X W a ft) : PDW X W (.BoolOp .And [a] pos) ft := pw_and1 ha
theorem pdw_or1 (ha : PDT X W a ft) : PDW X W (.BoolOp .Or [a] pos) ft := pw_or1 ha
theorem pdw_and {rest : List Expr} (ha : PDT X W a ft) (hb : PDW X W (.BoolOp .And (b :: rest) pos) fu) : PDW X W (.BoolOp .And (a :: b :: rest) pos) (rAndT ft fu) :=
  pw_weak (pw_and ha hb) fun σ H Q ⟨γ, α, F, μ, δ, w, s, q⟩ => tDT_go w s q fun k μ1 α1 F1 H1 p1 e1 w1 s1 q1 => by
    cases k with
    | true => rw [if_pos rfl]; exact tDT_last w1 s1 q1
    | false => rw [if_neg Bool.false_ne_true]; exact q1 α1 F1 H1 (List.prefix_refl _) (Same.refl F1) w1
theorem pdw_or {rest : List Expr} (ha : PDT X W a ft) (hb : PDW X W (.BoolOp .Or (b :: rest) pos) fu) : PDW X W (.BoolOp .Or (a :: b :: rest) pos) (rOrT ft fu) :=
  pw_weak (pw_or ha hb) fun σ H Q ⟨γ, α, F, μ, δ, w, s, q⟩ => tDT_go w s q fun k μ1 α1 F1 H1 p1 e1 w1 s1 q1 => by
    cases k with
    | false => rw [if_neg Bool.false_ne_true]; exact tDT_last w1 s1 q1
    | true => rw [if_pos rfl]; exact q1 α1 F1 H1 (List.prefix_refl _) (Same.refl F1) w1
theorem pdt_w (h : PDW X W e ft) : PDT X W e ft := PW.pt h
theorem pdt_not (ha : PDT X W a ft) : PDT X W (.UnaryOp .Not a pos) (rNotT ft) :=
  pt_weak (pt_not ha) fun σ H Q ⟨γ, α, F, μ, δ, w, s, q⟩ => tDT_go w s q fun k μ1 α1 F1 H1 p1 e1 w1 s1 q1 => q1 α1 F1 H1 (List.prefix_refl _) (Same.refl F1) w1
/-- .. as values: all but the last True or False -/
def rAndV (fa fb : RE) : RE := fun δ μ => (fa δ μ).bind fun d μ1 => match d with
  | .bl true => fb δ μ1
  | .bl false => .ok (.bl false) μ1
  | _ => .bad
def rOrV (fa fb : RE) : RE := fun δ μ => (fa δ μ).bind fun d μ1 => match d with
  | .bl true => .ok (.bl true) μ1
  | .bl false => fb δ μ1
  | _ => .bad
def rNotV (fa : RE) : RE := fun δ μ => (fa δ μ).bind fun d μ1 => match d with
  | .bl k => .ok (.bl (!k)) μ1
  | _ => .bad
theorem pd_one {op : BoolOp} (h : PD X W a f) : PD X W (.BoolOp op [a] pos) f := pe_one h
theorem pd_and {rest : List Expr} (ha : PD X W a fa) (hb : PD X W (.BoolOp .And (b :: rest) pos) fb) : PD X W (.BoolOp .And (a :: b :: rest) pos) (rAndV fa fb) :=
  pe_weak (pe_and ha hb) fun σ H Q ⟨γ, α, F, μ, δ, w, s, q⟩ => tD_go w s q fun d μ1 α1 F1 H1 v p1 e1 w1 s1 hv q1 => by
    cases d with
    | bl k =>
      cases hv
      refine ⟨k, rfl, ?_⟩
      cases k with
      | true => rw [if_pos rfl]; exact tD_last w1 s1 q1
      | false => rw [if_neg Bool.false_ne_true]; exact q1 α1 F1 H1 (List.prefix_refl _) (Same.refl F1) w1 _ (.bl false)
    | _ => exact q1.elim
theorem pd_or {rest : List Expr} (ha : PD X W a fa) (hb : PD X W (.BoolOp .Or (b :: rest) pos) fb) : PD X W (.BoolOp .Or (a :: b :: rest) pos) (rOrV fa fb) :=
  pe_weak (pe_or ha hb) fun σ H Q ⟨γ, α, F, μ, δ, w, s, q⟩ => tD_go w s q fun d μ1 α1 F1 H1 v p1 e1 w1 s1 hv q1 => by
    cases d with
    | bl k =>
      cases hv
      refine ⟨k, rfl, ?_⟩
      cases k with
      | false => rw [if_neg Bool.false_ne_true]; exact tD_last w1 s1 q1
      | true => rw [if_pos rfl]; exact q1 α1 F1 H1 (List.prefix_refl _) (Same.refl F1) w1 _ (.bl true)
    | _ => exact q1.elim
theorem pd_not (ha : PD X W a fa) : PD X W (.UnaryOp .Not a pos) (rNotV fa) :=
  pe_weak (pe_not ha) fun σ H Q ⟨γ, α, F, μ, δ, w, s, q⟩ => tD_go w s q fun d μ1 α1 F1 H1 v p1 e1 w1 s1 hv q1 => by
    cases d with
    | bl k => cases hv; exact ⟨k, rfl, q1 α1 F1 H1 (List.prefix_refl _) (Same.refl F1) w1 _ (.bl _)⟩
    | _ => exact q1.elim
/-- a if t else b -/
def rIf (t : RT) (fa fb : RE) : RE := fun δ μ => (t δ μ).bind fun k μ1 => match k with
  | true => fa δ μ1
  | false => fb δ μ1
theorem pd_if (hc : PDT X W c ft) (ha : PD X W a fa) (hb : PD X W b fb) : PD X W (.IfExp c a b pos) (rIf ft fa fb) :=
  pe_weak (pe_ifExp hc ha hb) fun σ H Q ⟨γ, α, F, μ, δ, w, s, q⟩ => tDT_go w s q fun k μ1 α1 F1 H1 p1 e1 w1 s1 q1 => by
    cases k with
    | true => rw [if_pos rfl]; exact tD_last w1 s1 q1
    | false => rw [if_neg Bool.false_ne_true]; exact tD_last w1 s1 q1

/-! ### arguments, displays -/
def rNil : RA := fun _ μ => .ok [] μ
def rCons (fa : RE) (fs : RA) : RA := fun δ μ => (fa δ μ).bind fun d μ1 => (fs δ μ1).bind fun ds μ2 => .ok (d :: ds) μ2
theorem pda_nil : PDA X W [] rNil := pa_weak pa_nil fun σ H Q ⟨γ, α, F, μ, δ, w, s, q⟩ => q α F H (List.prefix_refl _) (Same.refl F) w [] .nil
theorem pda_cons (ha : PD X W e f) (hr : PDA X W es fs) (hs : starEach (e :: es) X.env = (false, eval e X.env) :: starEach es X.env := by rfl) : PDA X W (e :: es) (rCons f fs) :=
  pa_weak (pa_cons ha hr hs) fun σ H Q ⟨γ, α, F, μ, δ, w, s, q⟩ => tD_go w s q fun d μ1 α1 F1 H1 v p1 e1 w1 s1 hv q1 => tDA_go w1 s1 q1 fun ds μ2 α2 F2 H2 vs p2 e2 w2 s2 hvs q2 =>
    q2 α2 F2 H2 (List.prefix_refl _) (Same.refl F2) w2 _ (.cons (hv.mono p2 e2) hvs)
/-- (a, b, ..) -/
def rTup (fs : RA) : RE := fun δ μ => (fs δ μ).bind fun ds μ1 => if ds.length ≤ 16777216 then .ok (.tup ds) μ1 else .bad
/-- [a, b, ..] that nobody changes | that is changed -/
def rLst (fs : RA) : RE := fun δ μ => (fs δ μ).bind fun ds μ1 => if ds.length ≤ 16777216 then .ok (.lst ds) μ1 else .bad
def rLstM (fs : RA) : RE := fun δ μ => (fs δ μ).bind fun ds μ1 => if ds.length ≤ 16777216 then .ok (.loc μ1.length) (μ1 ++ [.lst ds]) else .bad
theorem pd_tup {n : Nat} (h : PDA X W es fs) : PD X W (.Tuple es n pos) (rTup fs) :=
  pe_weak (pe_tup h) fun σ H Q ⟨γ, α, F, μ, δ, w, s, q⟩ => tDA_go w s q fun ds μ1 α1 F1 H1 vs p1 e1 w1 s1 hv q1 => by
    by_cases hz : ds.length ≤ 16777216
    · rw [if_pos hz] at q1
      refine ⟨by rw [hv.length, sizeLine_eq]; exact hz, fun p hp => ?_⟩
      refine q1 α1 _ _ (List.prefix_refl _) (same_new (w1.sub.free hp)) (w1.lay (o := .tup vs) hp) _ (.tup (.inl (.inl upd_same)) (hv.mono (List.prefix_refl _) (same_new (w1.sub.free hp))))
    · rw [if_neg hz] at q1; exact q1.elim
theorem pd_lst (h : PDA X W es fs) : PD X W (.List es pos) (rLst fs) :=
  pe_weak (pe_lst h) fun σ H Q ⟨γ, α, F, μ, δ, w, s, q⟩ => tDA_go w s q fun ds μ1 α1 F1 H1 vs p1 e1 w1 s1 hv q1 => by
    by_cases hz : ds.length ≤ 16777216
    · rw [if_pos hz] at q1
      refine ⟨by rw [hv.length, sizeLine_eq]; exact hz, fun p hp => ?_⟩
      refine q1 α1 _ _ (List.prefix_refl _) (same_new (w1.sub.free hp)) (w1.lay (o := .lst vs) hp) _ (.lst upd_same (hv.mono (List.prefix_refl _) (same_new (w1.sub.free hp))))
    · rw [if_neg hz] at q1; exact q1.elim
theorem Wd.newAt {K : PySem.W.Frag} {γ : Hp} {α : List Addr} {F H : Hp} {μ : List Ob} (w : Wd K γ α F H μ) (p : Addr) : (α ++ [p])[μ.length]? = some p := by
  rw [← w.len, List.getElem?_concat_length]
theorem Wd.newLst {K : PySem.W.Frag} {γ : Hp} {α : List Addr} {F H : Hp} {μ : List Ob} {p : Addr} {vs : List V} {ds : List D} (w : Wd K γ α F H μ) (hp : H p = none) (h : IsL K α F vs ds) : Wd K γ (α ++ [p]) F (upd H p (.lst vs)) (μ ++ [.lst ds]) :=
  w.new hp ⟨vs, upd_same, h.mono (List.prefix_append _ _) (Same.refl F)⟩
theorem pd_lstM (h : PDA X W es fs) : PD X W (.List es pos) (rLstM fs) :=
  pe_weak (pe_lst h) fun σ H Q ⟨γ, α, F, μ, δ, w, s, q⟩ => tDA_go w s q fun ds μ1 α1 F1 H1 vs p1 e1 w1 s1 hv q1 => by
    by_cases hz : ds.length ≤ 16777216
    · rw [if_pos hz] at q1
      refine ⟨by rw [hv.length, sizeLine_eq]; exact hz, fun p hp => ?_⟩
      exact q1 (α1 ++ [p]) F1 _ (List.prefix_append _ _) (Same.refl F1) (w1.newLst hp hv) _ (.loc (w1.newAt p))
    · rw [if_neg hz] at q1; exact q1.elim
end
end DL

/-! The data layer, c: operations on data. -/
namespace DL
open PySem L2

/-! ### data as the library's plain data -/
mutual
def D.py : D → PyData
  | .non => .none
  | .bl b => .bool b
  | .int i => .int i
  | .str s => .str s
  | .tup xs => .tuple (pyL xs)
  | .lst xs => .list (pyL xs)
  | .frl xs => .list (pyL xs)
  | _ => .dict []
def pyL : List D → List PyData
  | [] => []
  | x :: xs => x.py :: pyL xs
end
/- plain data of at most this depth -/
mutual
def D.okd : Nat → D → Bool
  | _, .non => true
  | _, .bl _ => true
  | _, .int _ => true
  | _, .str s => PyData.strOk s
  | n, .tup xs => match n with
    | 0 => false
    | n + 1 => okdL n xs
  | n, .lst xs => match n with
    | 0 => false
    | n + 1 => okdL n xs
  | n, .frl xs => match n with
    | 0 => false
    | n + 1 => okdL n xs
  | _, _ => false
def okdL : Nat → List D → Bool
  | _, [] => true
  | n, x :: xs => D.okd n x && okdL n xs
end
/- == -/
mutual
def D.eqb : D → D → Bool
  | .non, .non => true
  | .bl a, .bl b => a == b
  | .bl a, .int j => (if a then 1 else 0) == j
  | .int i, .bl b => i == (if b then 1 else 0)
  | .int i, .int j => i == j
  | .str x, .str y => x == y
  | .lst xs, .lst ys => eqbL xs ys
  | .lst xs, .frl ys => eqbL xs ys
  | .frl xs, .lst ys => eqbL xs ys
  | .frl xs, .frl ys => eqbL xs ys
  | .tup xs, .tup ys => eqbL xs ys
  | _, _ => false
def eqbL : List D → List D → Bool
  | [], [] => true
  | x :: xs, y :: ys => D.eqb x y && eqbL xs ys
  | _, _ => false
end
mutual
theorem eqb_eqv : ∀ (n : Nat) (d e : D), d.okd n = true → e.okd n = true → PyData.eqv d.py e.py = d.eqb e
  | n, d, e, hd, he => by
    cases d <;> cases e <;> first
      | (simp only [D.okd] at hd he; exact absurd hd Bool.false_ne_true)
      | (simp only [D.okd] at hd he; exact absurd he Bool.false_ne_true)
      | (simp only [D.py, PyData.eqv, D.eqb]; done)
      | (cases n with
         | zero => (first | (simp only [D.okd] at hd; exact absurd hd Bool.false_ne_true))
         | succ n =>
           simp only [D.okd] at hd he
           simp only [D.py, PyData.eqv, D.eqb]
           exact eqbL_eqv n _ _ hd he)
theorem eqbL_eqv : ∀ (n : Nat) (d e : List D), okdL n d = true → okdL n e = true → PyData.eqvAll (pyL d) (pyL e) = eqbL d e
  | _, [], [], _, _ => rfl
  | n, x :: xs, y :: ys, hd, he => by
    rw [okdL, Bool.and_eq_true] at hd he
    rw [pyL, pyL, PyData.eqvAll, eqbL, eqb_eqv n x y hd.1 he.1, eqbL_eqv n xs ys hd.2 he.2]
  | _, [], _ :: _, _, _ => by simp only [pyL, PyData.eqvAll, eqbL]
  | _, _ :: _, [], _, _ => by simp only [pyL, PyData.eqvAll, eqbL]
end
mutual
theorem okd_shaped : ∀ (n : Nat) (d : D), d.okd n = true → d.py.canLay0 = true ∧ d.py.depth ≤ n
  | _, .non, _ => by simp [D.py, PyData.canLay0, PyData.depth]
  | _, .bl b, _ => by simp [D.py, PyData.canLay0, PyData.depth]
  | _, .int b, _ => by simp [D.py, PyData.canLay0, PyData.depth]
  | _, .str b, h => by
    simp only [D.okd] at h
    simp [D.py, PyData.canLay0, PyData.depth, h]
  | 0, .tup xs, h => by simp only [D.okd] at h; exact absurd h Bool.false_ne_true
  | 0, .lst xs, h => by simp only [D.okd] at h; exact absurd h Bool.false_ne_true
  | 0, .frl xs, h => by simp only [D.okd] at h; exact absurd h Bool.false_ne_true
  | n + 1, .tup xs, h => by
    simp only [D.okd] at h
    have := okdL_shaped n xs h
    rw [D.py, PyData.canLay0, PyData.depth]
    exact ⟨this.1, by omega⟩
  | n + 1, .lst xs, h => by
    simp only [D.okd] at h
    have := okdL_shaped n xs h
    rw [D.py, PyData.canLay0, PyData.depth]
    exact ⟨this.1, by omega⟩
  | n + 1, .frl xs, h => by
    simp only [D.okd] at h
    have := okdL_shaped n xs h
    rw [D.py, PyData.canLay0, PyData.depth]
    exact ⟨this.1, by omega⟩
  | _, .dct _ _, h => by simp only [D.okd] at h; exact absurd h Bool.false_ne_true
  | _, .ins _ _ _, h => by simp only [D.okd] at h; exact absurd h Bool.false_ne_true
  | _, .loc _, h => by simp only [D.okd] at h; exact absurd h Bool.false_ne_true
  | _, .vv _, h => by simp only [D.okd] at h; exact absurd h Bool.false_ne_true
theorem okdL_shaped : ∀ (n : Nat) (d : List D), okdL n d = true → PyData.canLayAll0 (pyL d) = true ∧ PyData.depthAll (pyL d) ≤ n
  | _, [], _ => ⟨by simp only [pyL, PyData.canLayAll0], by simp [pyL, PyData.depthAll]⟩
  | n, x :: xs, h => by
    rw [okdL, Bool.and_eq_true] at h
    have h1 := okd_shaped n x h.1
    have h2 := okdL_shaped n xs h.2
    refine ⟨by rw [pyL, PyData.canLayAll0, h1.1, h2.1]; rfl, ?_⟩
    rw [pyL, PyData.depthAll]
    exact Nat.max_le.mpr ⟨h1.2, h2.2⟩
end
theorem okd_sh {n : Nat} {d : D} (h : d.okd n = true) (hn : n ≤ 64) : SeqAt.shaped d.py = true := by
  obtain ⟨h1, h2⟩ := okd_shaped n d h
  unfold SeqAt.shaped
  rw [h1, decide_eq_true (by omega)]
  rfl
section
variable {K : PySem.W.Frag} {γ : Hp} {α : List Addr} {F H : Hp} {μ : List Ob}
mutual
theorem Is.dp : ∀ (n : Nat) {v : V} {d : D}, Is K α F v d → d.okd n = true → Dp K F v d.py
  | _, _, _, .non, _ => by rw [D.py]; exact .non
  | _, _, _, .bl b, _ => by rw [D.py]; exact .bl b
  | _, _, _, .int i, _ => by rw [D.py]; exact .int i
  | _, _, _, .str s, _ => by rw [D.py]; exact .str s
  | 0, _, _, .tup h l, e => by simp only [D.okd] at e; exact absurd e Bool.false_ne_true
  | n + 1, _, _, .tup h l, e => by rw [D.py]; exact .tup h (IsL.dp n l (by simp only [D.okd] at e; exact e))
  | 0, _, _, .lst h l, e => by simp only [D.okd] at e; exact absurd e Bool.false_ne_true
  | n + 1, _, _, .lst h l, e => by rw [D.py]; exact .lst (.inl (.inl h)) (IsL.dp n l (by simp only [D.okd] at e; exact e))
  | 0, _, _, .frl h l, e => by simp only [D.okd] at e; exact absurd e Bool.false_ne_true
  | n + 1, _, _, .frl h l, e => by rw [D.py]; exact .lst h (IsL.dp n l (by simp only [D.okd] at e; exact e))
  | _, _, _, .dct h q l, e => by simp only [D.okd] at e; exact absurd e Bool.false_ne_true
  | _, _, _, .ins h q l, e => by simp only [D.okd] at e; exact absurd e Bool.false_ne_true
  | _, _, _, .loc h, e => by simp only [D.okd] at e; exact absurd e Bool.false_ne_true
  | _, _, _, .vv x, e => by simp only [D.okd] at e; exact absurd e Bool.false_ne_true
theorem IsL.dp : ∀ (n : Nat) {vs : List V} {ds : List D}, IsL K α F vs ds → okdL n ds = true → DpAll K F vs (pyL ds)
  | _, _, _, .nil, _ => .nil
  | n, _, _, .cons h l, e => by
    rw [okdL, Bool.and_eq_true] at e
    exact .cons (Is.dp n h e.1) (IsL.dp n l e.2)
end
mutual
theorem dp_mono {F H : Hp} (s : Same F H) : ∀ {v : V} {d : PyData}, Dp K F v d → Dp K H v d
  | _, _, .non => .non
  | _, _, .bl b => .bl b
  | _, _, .int b => .int b
  | _, _, .str b => .str b
  | _, _, .lst h l => .lst (s.seq h) (dpAll_mono s l)
  | _, _, .tup h l => .tup (sqt_mono s h) (dpAll_mono s l)
theorem dpAll_mono {F H : Hp} (s : Same F H) : ∀ {vs : List V} {ds : List PyData}, DpAll K F vs ds → DpAll K H vs ds
  | _, _, .nil => .nil
  | _, _, .cons h l => .cons (dp_mono s h) (dpAll_mono s l)
end
/-- what is looked at, as plain data -/
theorem Wd.dp (w : Wd K γ α F H μ) {n : Nat} {v : V} {d : D} (h : Is K α F v d) (e : (d.view μ).okd n = true) : Dp K H v (d.view μ).py := by
  have q := w.view h
  cases hv : d.view μ with
  | lst ds =>
    rw [hv] at q e
    obtain ⟨a, vs, rfl, h1, h2⟩ := q
    cases n with
    | zero => simp only [D.okd] at e; exact absurd e Bool.false_ne_true
    | succ n => rw [D.py]; exact .lst (.inl (.inl h1)) (dpAll_mono w.sub (h2.dp n (by simp only [D.okd] at e; exact e)))
  | frl ds =>
    rw [hv] at q e
    obtain ⟨a, vs, rfl, h1, h2⟩ := q
    cases n with
    | zero => simp only [D.okd] at e; exact absurd e Bool.false_ne_true
    | succ n => rw [D.py]; exact .lst h1 (dpAll_mono w.sub (h2.dp n (by simp only [D.okd] at e; exact e)))
  | tup ds =>
    rw [hv] at q e
    obtain ⟨a, vs, rfl, h1, h2⟩ := q
    cases n with
    | zero => simp only [D.okd] at e; exact absurd e Bool.false_ne_true
    | succ n => rw [D.py]; exact .tup h1 (dpAll_mono w.sub (h2.dp n (by simp only [D.okd] at e; exact e)))
  | non => rw [hv] at q e; exact dp_mono w.sub (Is.dp n q e)
  | bl => rw [hv] at q e; exact dp_mono w.sub (Is.dp n q e)
  | int => rw [hv] at q e; exact dp_mono w.sub (Is.dp n q e)
  | str => rw [hv] at q e; exact dp_mono w.sub (Is.dp n q e)
  | _ => rw [hv] at e; simp only [D.okd] at e; exact absurd e Bool.false_ne_true
theorem view_int {d : D} {i : Int} (h : d.view μ = .int i) : d = .int i := by
  cases d with
  | loc k => rw [view_loc] at h; split at h <;> cases h
  | _ => first | exact h | cases h
theorem view_str {d : D} {i : Str} (h : d.view μ = .str i) : d = .str i := by
  cases d with
  | loc k => rw [view_loc] at h; split at h <;> cases h
  | _ => first | exact h | cases h
theorem view_tup {d : D} {i : List D} (h : d.view μ = .tup i) : d = .tup i := by
  cases d with
  | loc k => rw [view_loc] at h; split at h <;> cases h
  | _ => first | exact h | cases h

/-! ### == -/
def eqD (d e : D) (μ : List Ob) : R D := if (d.view μ).okd 60 && (e.view μ).okd 60 then .ok (.bl ((d.view μ).eqb (e.view μ))) μ else .bad
def neD (d e : D) (μ : List Ob) : R D := if (d.view μ).okd 60 && (e.view μ).okd 60 then .ok (.bl (!(d.view μ).eqb (e.view μ))) μ else .bad
theorem op2_eq : Op2 K (rEqD K) eqD := fun γ α F H μ x y d e Q E w hx hy q => by
  unfold eqD at q
  by_cases h : ((d.view μ).okd 60 && (e.view μ).okd 60) = true
  · rw [if_pos h] at q
    rw [Bool.and_eq_true] at h
    refine ⟨_, _, w.dp hx h.1, w.dp hy h.2, okd_sh h.1 (by decide), okd_sh h.2 (by decide), ?_⟩
    rw [eqb_eqv 60 _ _ h.1 h.2]
    exact q α F H (List.prefix_refl _) (Same.refl F) w _ (.bl _)
  · rw [if_neg h] at q; exact q.elim
theorem op2_ne : Op2 K (rNeD K) neD := fun γ α F H μ x y d e Q E w hx hy q => by
  unfold neD at q
  by_cases h : ((d.view μ).okd 60 && (e.view μ).okd 60) = true
  · rw [if_pos h] at q
    rw [Bool.and_eq_true] at h
    refine ⟨_, _, w.dp hx h.1, w.dp hy h.2, okd_sh h.1 (by decide), okd_sh h.2 (by decide), ?_⟩
    rw [eqb_eqv 60 _ _ h.1 h.2]
    exact q α F H (List.prefix_refl _) (Same.refl F) w _ (.bl _)
  · rw [if_neg h] at q; exact q.elim

/-! ### is None -/
def isN (d e : D) (μ : List Ob) : R D := match e with
  | .non => match d with
    | .vv _ => .bad
    | .non => .ok (.bl true) μ
    | _ => .ok (.bl false) μ
  | _ => .bad
def isNotN (d e : D) (μ : List Ob) : R D := match e with
  | .non => match d with
    | .vv _ => .bad
    | .non => .ok (.bl false) μ
    | _ => .ok (.bl true) μ
  | _ => .bad
theorem op2_isN : Op2 K (fun x y H Q => y = .non ∧ Q (.bl (decide (x = .non))) H) isN := fun γ α F H μ x y d e Q E w hx hy q => by
  cases e <;> try exact q.elim
  cases hy
  refine ⟨rfl, ?_⟩
  cases hx <;> first | exact q α F H (List.prefix_refl _) (Same.refl F) w _ (.bl _) | exact q.elim
theorem op2_notN : Op2 K (fun x y H Q => y = .non ∧ Q (.bl (!decide (x = .non))) H) isNotN := fun γ α F H μ x y d e Q E w hx hy q => by
  cases e <;> try exact q.elim
  cases hy
  refine ⟨rfl, ?_⟩
  cases hx <;> first | exact q α F H (List.prefix_refl _) (Same.refl F) w _ (.bl _) | exact q.elim

/-! ### ints -/
def intB (g : Int → Int → Bool) (d e : D) (μ : List Ob) : R D := match d, e with
  | .int i, .int j => .ok (.bl (g i j)) μ
  | _, _ => .bad
theorem op2_intB {g : Int → Int → Bool} : Op2 K (rI0 fun i j => .bl (g i j)) (intB g) := fun γ α F H μ x y d e Q E w hx hy q => by
  cases d <;> try exact q.elim
  cases e <;> try exact q.elim
  cases hx; cases hy
  exact ⟨_, _, rfl, rfl, q α F H (List.prefix_refl _) (Same.refl F) w _ (.bl _)⟩
abbrev ltD := intB fun i j => decide (i < j)
abbrev leD := intB fun i j => decide (i ≤ j)
abbrev gtD := intB fun i j => decide (j < i)
abbrev geD := intB fun i j => decide (j ≤ i)
theorem intB_noexc {g : Int → Int → Bool} (d e : D) (μ : List Ob) (x : Exn) (μ' : List Ob) : intB g d e μ ≠ .exc x μ' := by
  cases d <;> cases e <;> exact fun h => nomatch h
def intI (C : Int → Int → Bool) (g : Int → Int → Int) (d e : D) (μ : List Ob) : R D := match d, e with
  | .int i, .int j => if C i j then .ok (.int (g i j)) μ else .bad
  | _, _ => .bad
theorem op2_intI {C : Int → Int → Bool} {P : Int → Int → Prop} {g : Int → Int → Int} (h : ∀ i j, C i j = true → P i j) : Op2 K (rI P fun i j => .int (g i j)) (intI C g) := fun γ α F H μ x y d e Q E w hx hy q => by
  cases d <;> try exact q.elim
  cases e <;> try exact q.elim
  rename_i i j
  cases hx; cases hy
  unfold intI at q
  dsimp only at q
  by_cases hc : C i j = true
  · rw [if_pos hc] at q
    exact ⟨i, j, rfl, rfl, h i j hc, q α F H (List.prefix_refl _) (Same.refl F) w _ (.int _)⟩
  · rw [if_neg hc] at q; exact q.elim
def intI0 (g : Int → Int → Int) (d e : D) (μ : List Ob) : R D := match d, e with
  | .int i, .int j => .ok (.int (g i j)) μ
  | _, _ => .bad
theorem op2_intI0 {g : Int → Int → Int} : Op2 K (rI0 fun i j => .int (g i j)) (intI0 g) := fun γ α F H μ x y d e Q E w hx hy q => by
  cases d <;> try exact q.elim
  cases e <;> try exact q.elim
  cases hx; cases hy
  exact ⟨_, _, rfl, rfl, q α F H (List.prefix_refl _) (Same.refl F) w _ (.int _)⟩
abbrev subD := intI0 fun i j => i - j
def mulC (i j : Int) : Bool := (decide (-(2 ^ 64) < i) && decide (i < 2 ^ 64)) || (decide (-(2 ^ 64) < j) && decide (j < 2 ^ 64))
abbrev mulD := intI mulC fun i j => i * j
theorem op2_mul : Op2 K (rI CMul fun i j => .int (i * j)) mulD := op2_intI fun i j h => by
  unfold mulC at h
  rw [Bool.or_eq_true, Bool.and_eq_true, Bool.and_eq_true, decide_eq_true_eq, decide_eq_true_eq, decide_eq_true_eq, decide_eq_true_eq] at h
  exact h
abbrev divD := intI (fun _ j => decide (0 < j) && decide (j < 1073741824)) fun i j => i / j
theorem op2_div : Op2 K (rI CDiv fun i j => .int (i / j)) divD := op2_intI fun i j h => by
  rw [Bool.and_eq_true, decide_eq_true_eq, decide_eq_true_eq] at h
  exact h
abbrev modD := intI (fun _ j => decide (0 < j)) fun i j => i % j
theorem op2_mod : Op2 K (rI (fun _ j => 0 < j) fun i j => .int (i % j)) modD := op2_intI fun i j h => of_decide_eq_true h
abbrev powD := intI (fun i j => decide (0 ≤ j) && (decide (j ≤ 1000000) && decide (i.natAbs < 2 ^ 64))) fun i j => i ^ j.toNat
theorem op2_pow : Op2 K (rI CPow fun i j => .int (i ^ j.toNat)) powD := op2_intI fun i j h => by
  rw [Bool.and_eq_true, Bool.and_eq_true, decide_eq_true_eq, decide_eq_true_eq, decide_eq_true_eq] at h
  exact h

/-! ### + -/
def addD (d e : D) (μ : List Ob) : R D := match d.view μ, e.view μ with
  | .int i, .int j => .ok (.int (i + j)) μ
  | .str x, .str y => if x.length + y.length ≤ 16777216 then .ok (.str (x ++ y)) μ else .bad
  | .lst xs, .lst ys => if xs.length + ys.length ≤ 16777216 then .ok (.lst (xs ++ ys)) μ else .bad
  | .tup xs, .tup ys => if xs.length + ys.length ≤ 16777216 then .ok (.tup (xs ++ ys)) μ else .bad
  | _, _ => .bad
def rAddA (K : PySem.W.Frag) : R2 := fun x y H Q => (rI0 fun i j => .int (i + j)) x y H Q ∨ (∃ i j, x = .str i ∧ y = .str j ∧ i.length + j.length ≤ sizeLine ∧ Q (.str (i ++ j)) H) ∨ rCat x y H Q ∨ rCatA K x y H Q
theorem op_addA {X : Cx} : OpR X (binaryOp .Add) (rAddA X.K) := OpR.or op_add (OpR.or op_add_str (OpR.or op_cat op_catA))
theorem op2_add : Op2 K (rAddA K) addD := fun γ α F H μ x y d e Q E w hx hy q => by
  unfold addD at q
  have vx := w.view hx
  have vy := w.view hy
  split at q
  · rename_i i j hd he
    rw [view_int hd] at hx
    rw [view_int he] at hy
    cases hx; cases hy
    exact .inl ⟨i, j, rfl, rfl, q α F H (List.prefix_refl _) (Same.refl F) w _ (.int _)⟩
  · rename_i i j hd he
    rw [view_str hd] at hx
    rw [view_str he] at hy
    cases hx; cases hy
    by_cases hz : i.length + j.length ≤ 16777216
    · rw [if_pos hz] at q
      exact .inr (.inl ⟨i, j, rfl, rfl, by rw [sizeLine_eq]; exact hz, q α F H (List.prefix_refl _) (Same.refl F) w _ (.str _)⟩)
    · rw [if_neg hz] at q; exact q.elim
  · rename_i xs ys hd he
    rw [hd] at vx
    rw [he] at vy
    obtain ⟨a, vs, rfl, h1, h2⟩ := vx
    obtain ⟨b, ws, rfl, h3, h4⟩ := vy
    by_cases hz : xs.length + ys.length ≤ 16777216
    · rw [if_pos hz] at q
      refine .inr (.inr (.inl ⟨a, b, vs, ws, rfl, rfl, h1, h3, by rw [sizeLine_eq, h2.length, h4.length]; exact hz, fun p hp => ?_⟩))
      have sn := same_new (o := .lst (vs ++ ws)) (w.sub.free hp)
      exact q α _ _ (List.prefix_refl _) sn (w.lay hp) _ (.lst upd_same ((h2.append h4).mono (List.prefix_refl _) sn))
    · rw [if_neg hz] at q; exact q.elim
  · rename_i xs ys hd he
    rw [view_tup hd] at hx
    rw [view_tup he] at hy
    cases hx with
    | tup ha la =>
    cases hy with
    | tup hb lb =>
    rename_i a vs b ws
    by_cases hz : xs.length + ys.length ≤ 16777216
    · rw [if_pos hz] at q
      refine .inr (.inr (.inr ⟨a, b, vs, ws, rfl, rfl, sqt_mono w.sub ha, sqt_mono w.sub hb, by rw [sizeLine_eq, la.length, lb.length]; exact hz, fun e0 => ?_, fun n0 e0 => ?_, fun n0 n1 p hp => ?_⟩))
      · subst e0
        cases la
        exact q α F H (List.prefix_refl _) (Same.refl F) w _ (.tup hb lb)
      · subst e0
        cases lb
        rw [List.append_nil] at q
        exact q α F H (List.prefix_refl _) (Same.refl F) w _ (.tup ha la)
      · have sn := same_new (o := .tup (vs ++ ws)) (w.sub.free hp)
        exact q α _ _ (List.prefix_refl _) sn (w.lay hp) _ (.tup (.inl (.inl upd_same)) ((la.append lb).mono (List.prefix_refl _) sn))
    · rw [if_neg hz] at q; exact q.elim
  · exact q.elim
end
end DL

/-! The data layer, d: containers: in, subscripts, slices, len, list, tuple, isinstance, calls. -/
namespace DL
open PySem PySem.Spec PyProof.Rows L2

section
variable {X : Cx} {pins : List (Addr × Obj)} {σ : L2.St} {H : Hp} {s : Shared}
/-- a dict that is read, in the heap -/
theorem rdd_of {a : Addr} {kvs : List (Key × V)} (I : Inv X pins σ H s) (h : RdD H a kvs) : kvs.length ≤ sizeLine ∧ (a == sysModules) = false ∧ ∃ vs, KV kvs vs ∧ s.heap.DictOf (mixKind X.prog X.w) a vs := dk_rd I.hok h
def rInK (neg : Bool) : R2 := fun x y H Q => ∃ a kvs k, y = .ref a ∧ x = kV k ∧ RdD H a kvs ∧ Q (.bl (if neg then !(valV kvs k).isSome else (valV kvs k).isSome)) H
theorem op_inK : OpR X (compareOp .In) (rInK false) := by
  intro pins s σ H x y v u Q I rx ry q
  obtain ⟨a, kvs, k, rfl, rfl, hd, q⟩ := q
  cases ry
  obtain ⟨_, lo, vs, kk, dd⟩ := rdd_of I hd
  refine wpAny_in_of (kV_is rx) lo dd.mapOf ?_
  rw [← (kk.val k).isSome_eq]
  exact ⟨.bl _, H, I.tok _, rfl, q⟩
theorem op_notInK : OpR X (compareOp .NotIn) (rInK true) := by
  intro pins s σ H x y v u Q I rx ry q
  obtain ⟨a, kvs, k, rfl, rfl, hd, q⟩ := q
  cases ry
  obtain ⟨_, lo, vs, kk, dd⟩ := rdd_of I hd
  refine wpAny_notIn_of (kV_is rx) lo dd.mapOf ?_
  rw [← (kk.val k).isSome_eq]
  exact ⟨.bl _, H, I.tok _, rfl, q⟩
def rIxK : R2 := fun x y H Q => ∃ a kvs k v, x = .ref a ∧ y = kV k ∧ RdD H a kvs ∧ valV kvs k = some v ∧ Q v H
theorem ix_K : IxR X rIxK := by
  intro value slice pins s σ H x y v u Q I rx ry q hs
  obtain ⟨a, kvs, k, z, rfl, rfl, hd, hv, q⟩ := q
  cases rx
  obtain ⟨_, lo, vs, kk, dd⟩ := rdd_of I hd
  obtain ⟨zv, hz, rz⟩ := RelO.some_of (v := z) (o := valueAt vs k) (by rw [← hv]; exact kk.val k)
  exact tail_any dd.typeIs slot_dict_getitem.lookup (wpAny_getItem_of (kV_is ry) dd.mapOf hz ⟨z, H, I.tok _, rz, q⟩) hs
/-- x in t, t a tuple of plain data -/
def rInU (K : PySem.W.Frag) (neg : Bool) : R2 := fun x y H Q => ∃ d ds, Dp K H x d ∧ Dp K H y (.tuple ds) ∧ SeqAt.shaped d = true ∧ SeqAt.shaped (.tuple ds) = true ∧ Q (.bl (if neg then !ds.any fun z => PyData.eqv z d else ds.any fun z => PyData.eqv z d)) H
theorem op_inU (hu : X.A.units + 65 < cLine) : OpR X (compareOp .In) (rInU X.K false) := by
  intro pins s σ H x y v u Q I rx ry q
  obtain ⟨d, ds, h1, h2, s1, s2, q⟩ := q
  obtain ⟨as, r1⟩ := Dp.reads I d x v h1 rx
  obtain ⟨bs, r2⟩ := Dp.reads I (.tuple ds) y u h2 ry
  exact SeqAt.in_tuple_reads r2 r1 (SeqAt.canLay_of_shaped s2) (SeqAt.canLay_of_shaped s1) (room_in_shaped s1 hu) ⟨.bl _, H, I, rfl, q⟩
theorem op_notInU (hu : X.A.units + 65 < cLine) : OpR X (compareOp .NotIn) (rInU X.K true) := by
  intro pins s σ H x y v u Q I rx ry q
  obtain ⟨d, ds, h1, h2, s1, s2, q⟩ := q
  obtain ⟨as, r1⟩ := Dp.reads I d x v h1 rx
  obtain ⟨bs, r2⟩ := Dp.reads I (.tuple ds) y u h2 ry
  exact SeqAt.notIn_tuple_reads r2 r1 (SeqAt.canLay_of_shaped s2) (SeqAt.canLay_of_shaped s1) (room_in_shaped s1 hu) ⟨.bl _, H, I, rfl, q⟩
/-- len, of a dict that is read -/
theorem call_lenK : CallR X (.builtin "len") (fun xs H Q => ∃ a kvs, xs = [V.ref a] ∧ RdD H a kvs ∧ Q (.int kvs.length) H) := by
  intro pins s σ H xs us Q I r q
  obtain ⟨a, kvs, rfl, hd, q⟩ := q
  obtain ⟨u, rfl, ru⟩ := vals1 r
  cases ru
  obtain ⟨z, lo, vs, kk, dd⟩ := rdd_of I hd
  have hl := kk.length
  have h0 := sizeLine_eq
  refine call_len_dict lo dd (by omega) ?_
  exact ⟨.int kvs.length, H, I.tok _, ⟨_, by rw [hl]⟩, q⟩
/-- list of a dict that is read -/
theorem call_listK (hc : X.calm = true) : CallR X (.type "list") (fun xs H Q => ∃ (a : Addr) (kvs : List (Key × V)), xs = [.ref a] ∧ RdD H a kvs ∧ ∀ p, H p = none → Q (.ref p) (upd H p (.lst (kvs.map fun kv => kV kv.1)))) := by
  intro pins s σ H xs us Q I r q
  obtain ⟨a, kvs, rfl, hd, q⟩ := q
  obtain ⟨u, rfl, ru⟩ := vals1 r
  cases ru
  obtain ⟨z, lo, vs, kk, dd⟩ := rdd_of I hd
  obtain ⟨ep, hat⟩ := dd.dictAt
  have ek : (kvs.map fun kv => kV kv.1) = vs.map fun p => kV p.1 := by
    have e := congrArg (List.map kV) kk.keys
    rw [List.map_map, List.map_map] at e
    exact e
  refine PySem.W.kdl_call (PySem.W.kdl_dict (knd := mixKind X.prog X.w) (kvs := vs) (ep := ep) lo) (I.ok.hd hc) hat (by rw [← kk.length]; exact z) fun h' tk acc c' hk hD hacc => ?_
  have hv : Vals (vs.map fun p => kV p.1) acc.toList := keys_at (by rw [Array.length_toList]; exact hacc.1) fun j v e => hacc.2 j v (by rw [← Array.getElem?_toList]; exact e)
  have hnew : ObjOk X.prog X.w (upd H s.heap.objs.size (.lst (kvs.map fun kv => kV kv.1))) h' s.heap.objs.size (.lst (kvs.map fun kv => kV kv.1)) :=
    ⟨by rw [List.length_map]; exact z, acc.toList, c', by rw [ek]; exact hv, by rw [Array.toArray_toList]; exact hD⟩
  exact ⟨.ref s.heap.objs.size, _, I.laid (t' := tk) hk (Nat.le_refl _) hnew, rfl, q _ (I.hok.fresh (Nat.le_refl _))⟩
/-- dict(d) of a dict that is read -/
theorem call_dictK : CallR X (.type "dict") (fun xs H Q => ∃ (a : Addr) (kvs : List (Key × V)), xs = [.ref a] ∧ RdD H a kvs ∧ ∀ p, H p = none → Q (.ref p) (upd H p (.dK kvs))) := by
  intro pins s σ H xs us Q I r q
  obtain ⟨a, kvs, rfl, hd, q⟩ := q
  obtain ⟨u, rfl, ru⟩ := vals1 r
  cases ru
  obtain ⟨z, lo, vs, kk, dd⟩ := rdd_of I hd
  refine kt_call_dict lo dd (by rw [← kk.length]; exact z) fun h' d' hs => ?_
  have hm : (s.heap.objs.size == sysModules) = false := beq_eq_false_iff_ne.mpr (Nat.ne_of_gt I.big)
  have hnew : ObjOk X.prog X.w (upd H s.heap.objs.size (.dK kvs)) h' s.heap.objs.size (.dK kvs) := ⟨z, hm, vs, kk, d'⟩
  exact ⟨.ref s.heap.objs.size, _, I.laid (t' := s.toks) (fun b o e => (hs.2 b (Nat.ne_of_lt (Heap.lt_size e))).trans (Heap.get?_push_of_some _ e)) (Nat.le_refl _) hnew, rfl, q _ (I.hok.fresh (Nat.le_refl _))⟩
/-- a dict stands still from now on -/
def tFrz (t : TE) : TE := fun σ H Q => t σ H fun v H1 => ∃ a kvs, v = .ref a ∧ H1 a = some (.dK kvs) ∧ ∀ o, Q v (upd H1 a (.frz o (.dK kvs)))
theorem pe_frz {e : Expr} {t : TE} (h : PE X e t) : PE X e (tFrz t) := by
  refine ⟨fun pins s σ H Q I q => thn (h.run pins s σ H _ I q) fun u s1 ⟨v, H1, I1, r1, a, kvs, e, ha, q1⟩ => ?_⟩
  subst e
  have hok := I1.hok a _ ha
  have hd : ObjOk X.prog X.w H1 s1.heap a (.dK kvs) := hok
  obtain ⟨z, lo, vs, kk, o, es, ep, ho, hr⟩ := hd
  have hnew : ObjOk X.prog X.w (upd H1 a (.frz o (.dK kvs))) s1.heap a (.frz o (.dK kvs)) := ⟨ho, z, lo, vs, kk, o, es, ep, ho, hr⟩
  exact ⟨.ref a, _, I1.write (t' := s1.toks) (x := a) (e := a) (o := .frz o (.dK kvs)) (by rw [ha]; exact True.intro) (.inl rfl) (fun _ _ _ q => q) ⟨o, ho⟩ hnew, r1, q1 o⟩
end

/-! ### keys -/
def D.key : D → Option Key
  | .int i => some (.inl i)
  | .str s => some (.inr s)
  | _ => none
def lookD {κ : Type} [DecidableEq κ] : List κ → List D → κ → Option D
  | k0 :: ks, x :: xs, k => if k0 = k then some x else lookD ks xs k
  | _, _, _ => none
section
variable {K : PySem.W.Frag} {γ : Hp} {α : List Addr} {F H : Hp} {μ : List Ob} {W : WX}
theorem key_kV {v : V} {d : D} {k : Key} (h : Is K α F v d) (e : d.key = some k) : v = kV k := by
  cases d <;> (simp only [D.key] at e; try cases e)
  · cases h; rfl
  · cases h; rfl
theorem look_val {κ : Type} [DecidableEq κ] (k : κ) : ∀ {kvs : List (κ × V)} {xs : List D}, IsL K α F (kvs.map (·.2)) xs →
    (∀ d, lookD (kvs.map (·.1)) xs k = some d → ∃ v, valV kvs k = some v ∧ Is K α F v d) ∧ (lookD (kvs.map (·.1)) xs k = none → valV kvs k = none)
  | [], _, .nil => ⟨fun d h => by simp [lookD] at h, fun _ => valV_nil⟩
  | (k0, v0) :: r, _, .cons (d := d0) (ds := ds) h l => by
    have ih := look_val k l
    show (∀ d, (if k0 = k then some d0 else lookD (r.map (·.1)) ds k) = some d → _) ∧ ((if k0 = k then some d0 else lookD (r.map (·.1)) ds k) = none → _)
    by_cases e : k0 = k
    · rw [if_pos e]
      exact ⟨fun d q => by cases q; exact ⟨v0, valV_pos (p := (k0, v0)) e, h⟩, fun q => nomatch q⟩
    · rw [if_neg e, valV_neg (p := (k0, v0)) e]
      exact ih
theorem look_some {κ : Type} [DecidableEq κ] {k : κ} {kvs : List (κ × V)} {xs : List D} (l : IsL K α F (kvs.map (·.2)) xs) : (valV kvs k).isSome = (lookD (kvs.map (·.1)) xs k).isSome := by
  cases h : lookD (kvs.map (·.1)) xs k with
  | some d =>
    obtain ⟨v, hv, _⟩ := (look_val k l).1 d h
    rw [hv]; rfl
  | none => rw [(look_val k l).2 h]; rfl

/-! ### in, not in -/
def inD (neg : Bool) (d e : D) (μ : List Ob) : R D := match e.view μ with
  | .lst xs => if d.okd 60 && okdL 60 xs then .ok (.bl (if neg then !xs.any fun z => z.eqb d else xs.any fun z => z.eqb d)) μ else .bad
  | .tup xs => if d.okd 60 && okdL 60 xs then .ok (.bl (if neg then !xs.any fun z => z.eqb d else xs.any fun z => z.eqb d)) μ else .bad
  | .dct ks xs => match d.key with
    | some k => .ok (.bl (if neg then !(lookD ks xs k).isSome else (lookD ks xs k).isSome)) μ
    | none => .bad
  | .str z => match d with
    | .str ⟨#[c]⟩ => .ok (.bl (if neg then !decide (c ∈ z.cps.toList) else decide (c ∈ z.cps.toList))) μ
    | _ => .bad
  | _ => .bad
theorem any_eqv {d : D} (hd : d.okd 60 = true) : ∀ {xs : List D}, okdL 60 xs = true → ((pyL xs).any fun z => PyData.eqv z d.py) = xs.any fun z => z.eqb d
  | [], _ => rfl
  | x :: xs, h => by
    rw [okdL, Bool.and_eq_true] at h
    rw [pyL, List.any_cons, List.any_cons, any_eqv hd h.2]
    rw [eqb_eqv 60 x d h.1 hd]
def rInA (K : PySem.W.Frag) (neg : Bool) : R2 := fun x y H Q =>
  (if neg then rNotInD K x y H Q else rInD K x y H Q) ∨ rInU K neg x y H Q ∨ rInK neg x y H Q ∨ (∃ (c : Nat) (z : Str), x = .str ⟨#[c]⟩ ∧ y = .str z ∧ Q (.bl (if neg then !decide (c ∈ z.cps.toList) else decide (c ∈ z.cps.toList))) H)
theorem op_inA {X : Cx} (hu : X.A.units + 65 < cLine) : OpR X (compareOp .In) (rInA X.K false) := by
  refine OpR.or ?_ (OpR.or (op_inU hu) (OpR.or op_inK op_in_sign))
  exact op_inD hu
theorem op_notInA {X : Cx} (hu : X.A.units + 65 < cLine) : OpR X (compareOp .NotIn) (rInA X.K true) := by
  refine OpR.or ?_ (OpR.or (op_notInU hu) (OpR.or op_notInK op_notIn_sign))
  exact op_notInD hu
theorem view_str' {d : D} {z : Str} (h : d.view μ = .str z) : d = .str z := view_str h
theorem op2_in (neg : Bool) : Op2 K (rInA K neg) (inD neg) := fun γ α F H μ x y d e Q E w hx hy q => by
  unfold inD at q
  have vy := w.view hy
  have go : ∀ k : Bool, Fin K γ α F (R.ok (D.bl k) μ) (okD K Q) E → Q (.bl k) H := fun k q => q α F H (List.prefix_refl _) (Same.refl F) w _ (.bl _)
  split at q
  · rename_i xs he
    rw [he] at vy
    obtain ⟨a, vs, rfl, h1, h2⟩ := vy
    by_cases hz : (d.okd 60 && okdL 60 xs) = true
    · rw [if_pos hz] at q
      rw [Bool.and_eq_true] at hz
      have dx : Dp K H x d.py := dp_mono w.sub (Is.dp 60 hx hz.1)
      have dl : Dp K H (.ref a) (.list (pyL xs)) := .lst (.inl (.inl h1)) (dpAll_mono w.sub (h2.dp 60 hz.2))
      have sl : SeqAt.shaped (.list (pyL xs)) = true := by
        have := okd_sh (d := .lst xs) (n := 61) (by simp only [D.okd]; exact hz.2) (by decide)
        simpa only [D.py] using this
      have qq := go _ q
      left
      cases neg with
      | true => exact ⟨_, _, dx, dl, okd_sh hz.1 (by decide), sl, by rw [any_eqv hz.1 hz.2]; exact qq⟩
      | false => exact ⟨_, _, dx, dl, okd_sh hz.1 (by decide), sl, by rw [any_eqv hz.1 hz.2]; exact qq⟩
    · rw [if_neg hz] at q; exact q.elim
  · rename_i xs he
    rw [he] at vy
    obtain ⟨a, vs, rfl, h1, h2⟩ := vy
    by_cases hz : (d.okd 60 && okdL 60 xs) = true
    · rw [if_pos hz] at q
      rw [Bool.and_eq_true] at hz
      have dx : Dp K H x d.py := dp_mono w.sub (Is.dp 60 hx hz.1)
      have dl : Dp K H (.ref a) (.tuple (pyL xs)) := .tup h1 (dpAll_mono w.sub (h2.dp 60 hz.2))
      have sl : SeqAt.shaped (.tuple (pyL xs)) = true := by
        have := okd_sh (d := .tup xs) (n := 61) (by simp only [D.okd]; exact hz.2) (by decide)
        simpa only [D.py] using this
      have qq := go _ q
      right; left
      exact ⟨_, _, dx, dl, okd_sh hz.1 (by decide), sl, by rw [any_eqv hz.1 hz.2]; exact qq⟩
    · rw [if_neg hz] at q; exact q.elim
  · rename_i ks xs he
    rw [he] at vy
    obtain ⟨a, kvs, rfl, h1, h2, h3⟩ := vy
    cases hk : d.key with
    | none => rw [hk] at q; exact q.elim
    | some k =>
      rw [hk] at q
      have qq := go _ q
      right; right; left
      refine ⟨a, kvs, k, rfl, key_kV hx hk, h1, ?_⟩
      rw [look_some h3, h2]
      exact qq
  · rename_i z he
    cases d with
    | str cs =>
      obtain ⟨⟨cl⟩⟩ := cs
      match cl, hx, q with
      | [], hx, q => exact q.elim
      | [c], hx, q =>
        have qq := go _ q
        cases hx
        rw [view_str he] at hy
        cases hy
        right; right; right
        exact ⟨c, z, rfl, rfl, qq⟩
      | _ :: _ :: _, hx, q => exact q.elim
    | _ => exact q.elim
  · exact q.elim
theorem pd_in {X : Cx} {a b : Expr} {fa fb : RE} {pos : Pos} (hu : X.A.units + 65 < cLine) (ha : PD X W a fa) (hb : PD X W b fb) (hm : behindInMarks .In b = false := by rfl) : PD X W (.Compare a [.In] [b] pos) (rBin (inD false) fa fb) :=
  pd_cmp (op_inA hu) (op2_in false) hm ha hb
theorem pd_notIn {X : Cx} {a b : Expr} {fa fb : RE} {pos : Pos} (hu : X.A.units + 65 < cLine) (ha : PD X W a fa) (hb : PD X W b fb) (hm : behindInMarks .NotIn b = false := by rfl) : PD X W (.Compare a [.NotIn] [b] pos) (rBin (inD true) fa fb) :=
  pd_cmp (op_notInA hu) (op2_in true) hm ha hb
theorem pdt_in {X : Cx} {a b : Expr} {fa fb : RE} {pos : Pos} (hu : X.A.units + 65 < cLine) (ha : PD X W a fa) (hb : PD X W b fb) (hm : behindInMarks .In b = false := by rfl) : PDT X W (.Compare a [.In] [b] pos) (rT (rBin (inD false) fa fb)) :=
  pdt_cmp (op_inA hu) (op2_in false) hm ha hb
theorem pdt_notIn {X : Cx} {a b : Expr} {fa fb : RE} {pos : Pos} (hu : X.A.units + 65 < cLine) (ha : PD X W a fa) (hb : PD X W b fb) (hm : behindInMarks .NotIn b = false := by rfl) : PDT X W (.Compare a [.NotIn] [b] pos) (rT (rBin (inD true) fa fb)) :=
  pdt_cmp (op_notInA hu) (op2_in true) hm ha hb

/-! ### o[i] -/
def getD (d e : D) (μ : List Ob) : R D := match d.view μ with
  | .lst xs => match e with
    | .int i => match atI xs i with
      | some x => .ok x μ
      | none => .bad
    | _ => .bad
  | .tup xs => match e with
    | .int i => match atI xs i with
      | some x => .ok x μ
      | none => .bad
    | _ => .bad
  | .dct ks xs => match e.key with
    | some k => match lookD ks xs k with
      | some x => .ok x μ
      | none => .bad
    | none => .bad
  | _ => .bad
def rIxA (K : PySem.W.Frag) : R2 := fun x y H Q => rIxL K x y H Q ∨ rIxT K x y H Q ∨ rIxK x y H Q
theorem ix_A {X : Cx} : IxR X (rIxA X.K) := IxR.or ix_list (IxR.or ix_tup ix_K)
theorem atI_is {vs : List V} {xs : List D} {i : Int} {x : D} (l : IsL K α F vs xs) (h : atI xs i = some x) : ∃ v, atI vs i = some v ∧ Is K α F v x := by
  unfold atI at h ⊢
  rw [l.length]
  cases hj : ixN xs.length i with
  | none => rw [hj] at h; cases h
  | some j =>
    rw [hj] at h
    exact l.get h
theorem op2_get : Op2 K (rIxA K) getD := fun γ α F H μ x y d e Q E w hx hy q => by
  unfold getD at q
  have vx := w.view hx
  split at q
  · rename_i xs hd
    rw [hd] at vx
    obtain ⟨a, vs, rfl, h1, h2⟩ := vx
    cases e <;> try exact q.elim
    rename_i i
    cases hy
    dsimp only at q
    cases ha : atI xs i with
    | none => rw [ha] at q; exact q.elim
    | some z =>
      rw [ha] at q
      obtain ⟨v, h3, h4⟩ := atI_is h2 ha
      exact .inl ⟨a, vs, i, v, rfl, rfl, .inl (.inl h1), h3, q α F H (List.prefix_refl _) (Same.refl F) w _ h4⟩
  · rename_i xs hd
    rw [hd] at vx
    obtain ⟨a, vs, rfl, h1, h2⟩ := vx
    cases e <;> try exact q.elim
    rename_i i
    cases hy
    dsimp only at q
    cases ha : atI xs i with
    | none => rw [ha] at q; exact q.elim
    | some z =>
      rw [ha] at q
      obtain ⟨v, h3, h4⟩ := atI_is h2 ha
      exact .inr (.inl ⟨a, vs, i, v, rfl, rfl, h1, h3, q α F H (List.prefix_refl _) (Same.refl F) w _ h4⟩)
  · rename_i ks xs hd
    rw [hd] at vx
    obtain ⟨a, kvs, rfl, h1, h2, h3⟩ := vx
    cases hk : e.key with
    | none => rw [hk] at q; exact q.elim
    | some k =>
      rw [hk] at q
      dsimp only at q
      cases hl : lookD ks xs k with
      | none => rw [hl] at q; exact q.elim
      | some z =>
        rw [hl] at q
        subst h2
        obtain ⟨v, h4, h5⟩ := (look_val k h3).1 z hl
        exact .inr (.inr ⟨a, kvs, k, v, rfl, key_kV hy hk, h1, h4, q α F H (List.prefix_refl _) (Same.refl F) w _ h5⟩)
  · exact q.elim
theorem pd_ix {X : Cx} {a b : Expr} {fa fb : RE} {pos : Pos} (ha : PD X W a fa) (hb : PD X W b fb) (hs : PlainIx b := by exact fun _ _ => rfl) : PD X W (.Subscript a b pos) (rBin getD fa fb) :=
  pe_weak (pe_ix ix_A ha hb hs) (tD_bin op2_get)

/-! ### o[a:b] -/
abbrev RO := Sl → List Ob → R (Option Int)
def tDO (K : PySem.W.Frag) (W : WX) (f : RO) : TO := fun σ H Q => ∃ γ α F μ δ, Wd K γ α F H μ ∧ SlIs K α F σ δ ∧ Fin K γ α F (f δ μ) (fun o _ _ _ H' => Q o H') (fun c dd H' => W c dd σ H')
theorem po_weak {X : Cx} {o : Option Expr} {t t' : TO} (h : PO X o t) (i : ∀ σ H Q, t' σ H Q → t σ H Q) : PO X o t' := ⟨fun pins s σ H Q I q => h.run pins s σ H Q I (i _ _ _ q)⟩
abbrev PDO (X : Cx) (W : WX) (o : Option Expr) (f : RO) : Prop := PO X o (tDO X.K W f)
def rNone : RO := fun _ μ => .ok none μ
def rSome (f : RE) : RO := fun δ μ => (f δ μ).bind fun d μ1 => match d with
  | .int i => .ok (some i) μ1
  | _ => .bad
theorem pdo_none {X : Cx} : PDO X W none rNone := po_weak po_none fun σ H Q ⟨γ, α, F, μ, δ, w, s, q⟩ => q α F H (List.prefix_refl _) (Same.refl F) w
theorem pdo_some {X : Cx} {e : Expr} {f : RE} (h : PD X W e f) : PDO X W (some e) (rSome f) := po_weak (po_some h) fun σ H Q ⟨γ, α, F, μ, δ, w, s, q⟩ =>
  tD_go w s q fun d μ1 α1 F1 H1 x p1 e1 w1 s1 hx q1 => by
    cases d with
    | int i => cases hx; exact ⟨i, rfl, q1 α1 F1 H1 (List.prefix_refl _) (Same.refl F1) w1⟩
    | _ => exact q1.elim
theorem tDO_go {τ : Type} {f : RO} {σ : L2.St} {δ : Sl} {g : Option Int → List Ob → R τ} {ok : τ → List Ob → List Addr → Hp → Hp → Prop} {Q : Option Int → Hp → Prop} (w : Wd K γ α F H μ) (s : SlIs K α F σ δ) (q : Fin K γ α F ((f δ μ).bind g) ok (fun c dd H' => W c dd σ H'))
    (k : ∀ b μ1 α1 F1 H1, α <+: α1 → Same F F1 → Wd K γ α1 F1 H1 μ1 → SlIs K α1 F1 σ δ → Fin K γ α1 F1 (g b μ1) ok (fun c dd H' => W c dd σ H') → Q b H1) : tDO K W f σ H Q := by
  refine ⟨γ, α, F, μ, δ, w, s, ?_⟩
  cases hf : f δ μ with
  | ok d μ1 =>
    rw [hf] at q
    exact fun α1 F1 H1 p e w1 => k d μ1 α1 F1 H1 p e w1 (s.mono p e) (q.up p e)
  | exc x μ1 =>
    rw [hf] at q
    exact q
  | bad =>
    rw [hf] at q
    exact q
def cutL {β : Type} (xs : List β) (lo hi : Option Int) : List β := (xs.drop (HT.sIx xs.length 0 lo)).take (HT.sIx xs.length xs.length hi - HT.sIx xs.length 0 lo)
theorem cutL_is {vs : List V} {xs : List D} {lo hi : Option Int} (l : IsL K α F vs xs) : IsL K α F (cutV vs lo hi) (cutL xs lo hi) := by
  unfold cutV cutL
  rw [l.length]
  exact (l.drop _).take _
def sliceD (d : D) (lo hi : Option Int) (μ : List Ob) : R D := match d.view μ with
  | .lst xs => .ok (.lst (cutL xs lo hi)) μ
  | .tup xs => .ok (.tup (cutL xs lo hi)) μ
  | _ => .bad
def rSlice (fa : RE) (fl fh : RO) : RE := fun δ μ => (fa δ μ).bind fun d μ1 => (fl δ μ1).bind fun lo μ2 => (fh δ μ2).bind fun hi μ3 => sliceD d lo hi μ3
def rSliceA (K : PySem.W.Frag) : V → Option Int → Option Int → Hp → VK → Prop := fun x lo hi H Q => rSlL K x lo hi H Q ∨ rSlA K x lo hi H Q
theorem pd_slice {X : Cx} {e : Expr} {lo hi : Option Expr} {fa : RE} {fl fh : RO} {p2 pos : Pos} (he : PD X W e fa) (hl : PDO X W lo fl) (hh : PDO X W hi fh) : PD X W (.Subscript e (.Slice lo hi none p2) pos) (rSlice fa fl fh) :=
  pe_weak (pe_slice (r := rSliceA X.K) (SlR.or sl_list sl_tupA) he hl hh) fun σ H Q ⟨γ, α, F, μ, δ, w, s, q⟩ =>
  tD_go w s q fun d μ1 α1 F1 H1 x p1 e1 w1 s1 hx q1 => tDO_go w1 s1 q1 fun lo μ2 α2 F2 H2 p2 e2 w2 s2 q2 => tDO_go w2 s2 q2 fun hi μ3 α3 F3 H3 p3 e3 w3 s3 q3 => by
    have hx3 := hx.mono (p2.trans p3) (e2.trans e3)
    have vx := w3.view hx3
    unfold sliceD at q3
    split at q3
    · rename_i xs hd
      rw [hd] at vx
      obtain ⟨a, vs, rfl, h1, h2⟩ := vx
      refine .inl ⟨a, vs, rfl, .inl (.inl h1), fun p hp => ?_⟩
      have sn := same_new (o := .lst (cutV vs lo hi)) (w3.sub.free hp)
      exact q3 α3 _ _ (List.prefix_refl _) sn (w3.lay hp) _ (.lst upd_same ((cutL_is h2).mono (List.prefix_refl _) sn))
    · rename_i xs hd
      rw [view_tup hd] at hx3
      cases hx3 with
      | tup ha la =>
      rename_i a vs
      refine .inr ⟨a, vs, rfl, sqt_mono w3.sub ha, fun hw => ?_, fun hw p hp => ?_⟩
      · have e0 : cutL xs lo hi = xs := by
          unfold cutL
          rw [← la.length, hw.1, hw.2, List.drop_zero, Nat.sub_zero, la.length, List.take_length]
        rw [e0] at q3
        exact q3 α3 F3 H3 (List.prefix_refl _) (Same.refl F3) w3 _ (.tup ha la)
      · have sn := same_new (o := .tup (cutV vs lo hi)) (w3.sub.free hp)
        exact q3 α3 _ _ (List.prefix_refl _) sn (w3.lay hp) _ (.tup (.inl (.inl upd_same)) ((cutL_is la).mono (List.prefix_refl _) sn))
    · exact q3.elim
end
end DL

/-! The data layer, e: targets, statements, loops, comprehensions. -/
namespace DL
open PySem L2

/-! ### targets -/
inductive Tg where
  | nm (i : Nat) | tp (is : List Nat)
def Tg.slots : Tg → List Nat
  | .nm i => [i]
  | .tp is => is
def setsV : List Nat → List V → St → St
  | i :: is, v :: vs, σ => setsV is vs (σ.set i (some v))
  | _, _, σ => σ
def setsD : List Nat → List D → Sl → Sl
  | i :: is, d :: ds, δ => setsD is ds (δ.set i (some d))
  | _, _, δ => δ
def Tg.set (t : Tg) (d : D) (δ : Sl) : Option Sl := match t with
  | .nm i => some (δ.set i (some d))
  | .tp is => match d with
    | .tup ds => if ds.length = is.length then some (setsD is ds δ) else none
    | _ => none
def gSets (is : List Nat) : TGs := fun vs σ H Q => vs.length = is.length ∧ Q (setsV is vs σ) H
def Tg.rd (K : PySem.W.Frag) : Tg → TG
  | .nm i => gName i
  | .tp is => fun v σ H Q => ∃ a xs, v = .ref a ∧ SqT K H a xs ∧ xs.length = is.length ∧ Q (setsV is xs σ) H
abbrev PDG (X : Cx) (tg : Expr) (t : Tg) : Prop := PG X tg (t.rd X.K)
section
variable {X : Cx} {pos : Pos}
theorem pg_weak {tg : Expr} {t t' : TG} (h : PG X tg t) (i : ∀ v σ H Q, t' v σ H Q → t v σ H Q) : PG X tg t' := ⟨fun pins s σ H v u Q I r q => h.run pins s σ H v u Q I r (i _ _ _ _ q)⟩
theorem pgs_weak {tg : List Expr} {t t' : TGs} (h : PGs X tg t) (i : ∀ v σ H Q, t' v σ H Q → t v σ H Q) : PGs X tg t' := ⟨fun pins s σ H v u Q I r q => h.run pins s σ H v u Q I r (i _ _ _ _ q)⟩
theorem pdg_nm (i : Nat) {x : Str} (hN : X.N.Nodup) (hi : X.N[i]? = some x := by rfl) (hx : Loc X.env.scope x := by first | exact Or.inl rfl | exact Or.inr rfl) (hf : X.fn x = true ∨ X.env.scope.names.lookup x = some .local := by first | exact .inl rfl | exact .inr rfl | assumption) : PDG X (.Name x pos) (.nm i) :=
  pg_name hN hi hx hf
theorem pgd_nil : PGs X [] (gSets []) := pgs_weak pgs_nil fun v σ H Q q => by
  obtain ⟨h, q⟩ := q
  cases v with
  | nil => exact ⟨rfl, q⟩
  | cons _ _ => cases h
theorem pgd_cons (i : Nat) {x : Str} {es : List Expr} {is : List Nat} {p : Pos} (hN : X.N.Nodup) (h : PGs X es (gSets is)) (hi : X.N[i]? = some x := by rfl) (hx : Loc X.env.scope x := by first | exact Or.inl rfl | exact Or.inr rfl) (hf : X.fn x = true ∨ X.env.scope.names.lookup x = some .local := by first | exact .inl rfl | exact .inr rfl | assumption)
    (hs : (assignEach (.Name x p :: es) X.env).map (·.2) = assign (.Name x p) X.env :: (assignEach es X.env).map (·.2) := by rfl) : PGs X (.Name x p :: es) (gSets (i :: is)) :=
  pgs_weak (pgs_cons (pg_name hN hi hx hf) h hs) fun v σ H Q q => by
    obtain ⟨h, q⟩ := q
    cases v with
    | nil => cases h
    | cons v vs => exact ⟨v, vs, rfl, Nat.succ.inj h, q⟩
theorem pdg_tp {es : List Expr} {is : List Nat} {k : Nat} (hc : X.calm = true) (h : PGs X es (gSets is)) (hn : (assignEach es X.env).length = is.length := by rfl) (hst : (assignEach es X.env).findIdx? (·.1) = none := by rfl) : PDG X (.Tuple es k pos) (.tp is) :=
  pg_weak (pg_tup hc h hn hst) fun v σ H Q q => by
    obtain ⟨a, xs, e1, h1, h2, q⟩ := q
    exact ⟨a, xs, e1, h1, h2, h2, q⟩
end
section
variable {K : PySem.W.Frag} {γ : Hp} {α : List Addr} {F H : Hp} {μ : List Ob} {σ : St} {δ : Sl}
theorem SlIs.sets : ∀ {is : List Nat} {vs : List V} {ds : List D} {σ : St} {δ : Sl}, SlIs K α F σ δ → IsL K α F vs ds → SlIs K α F (setsV is vs σ) (setsD is ds δ)
  | [], _, _, _, _, s, _ => s
  | _ :: _, _, _, _, _, s, .nil => s
  | i :: is, v :: vs, d :: ds, σ, δ, s, .cons h l => SlIs.sets (is := is) (vs := vs) (ds := ds) (σ := σ.set i (some v)) (δ := δ.set i (some d)) (s.set i h) l
/-- a target takes its value -/
theorem Tg.go {t : Tg} {v : V} {d : D} {δ' : Sl} {Q : St → Hp → Prop} (w : Wd K γ α F H μ) (s : SlIs K α F σ δ) (h : Is K α F v d) (e : t.set d δ = some δ')
    (k : ∀ σ', SlIs K α F σ' δ' → (∀ vs : List Nat, (∀ i ∈ t.slots, i ∈ vs) → L2.wipe σ' vs = L2.wipe σ vs) → σ'.length = σ.length → Q σ' H) : t.rd K v σ H Q := by
  have wset : ∀ (vs : List Nat) (σ : St) (i : Nat) (o : Option V), i ∈ vs → L2.wipe (σ.set i o) vs = L2.wipe σ vs := by
    intro vs
    induction vs with
    | nil => intro σ i o h; cases h
    | cons j vs ih =>
      intro σ i o h
      show (L2.wipe (σ.set i o) vs).set j none = (L2.wipe σ vs).set j none
      rcases List.mem_cons.mp h with rfl | h
      · by_cases hm : i ∈ vs
        · rw [ih σ i o hm]
        · have : L2.wipe (σ.set i o) vs = (L2.wipe σ vs).set i o := by
            clear ih h
            induction vs with
            | nil => rfl
            | cons j vs ih =>
              have h1 : i ≠ j := fun e => hm (by rw [e]; exact List.mem_cons_self)
              show (L2.wipe (σ.set i o) vs).set j none = ((L2.wipe σ vs).set j none).set i o
              rw [ih (fun z => hm (List.mem_cons_of_mem _ z)), List.set_comm _ _ h1]
          rw [this, List.set_set]
      · rw [ih σ i o h]
  cases t with
  | nm i =>
    cases e
    exact k _ (s.set i h) (fun vs hv => wset vs σ i _ (hv i (by simp [Tg.slots]))) (by rw [List.length_set])
  | tp is =>
    cases h with
    | tup ha la =>
      rename_i a xs ds
      have e' : (if ds.length = is.length then some (setsD is ds δ) else none) = some δ' := e
      by_cases hl : ds.length = is.length
      · rw [if_pos hl] at e'
        cases e'
        refine ⟨a, xs, rfl, sqt_mono w.sub ha, by rw [la.length]; exact hl, k _ (s.sets la) (fun vs hv => ?_) ?_⟩
        · have key : ∀ (is : List Nat) (xs : List V) (σ : St), (∀ i ∈ is, i ∈ vs) → L2.wipe (setsV is xs σ) vs = L2.wipe σ vs := by
            intro is
            induction is with
            | nil => intro xs σ _; rfl
            | cons i is ih =>
              intro xs σ hv
              cases xs with
              | nil => rfl
              | cons x xs =>
                show L2.wipe (setsV is xs (σ.set i (some x))) vs = _
                rw [ih xs _ (fun j hj => hv j (List.mem_cons_of_mem _ hj)), wset vs σ i _ (hv i List.mem_cons_self)]
          exact key is xs σ hv
        · have key : ∀ (is : List Nat) (xs : List V) (σ : St), (setsV is xs σ).length = σ.length := by
            intro is
            induction is with
            | nil => intro xs σ; rfl
            | cons i is ih =>
              intro xs σ
              cases xs with
              | nil => rfl
              | cons x xs =>
                show (setsV is xs (σ.set i (some x))).length = _
                rw [ih xs _, List.length_set]
          exact key is xs σ
      · rw [if_neg hl] at e'; cases e'
    | _ => cases e
end

/-! ### statements -/
inductive SO where
  | nx (δ : Sl) (μ : List Ob) | rt (d : D) (μ : List Ob) | bk (δ : Sl) (μ : List Ob) | ct (δ : Sl) (μ : List Ob) | exc (x : Exn) (δ : Sl) (μ : List Ob) | bad
abbrev RS := Sl → List Ob → SO
def FinS (K : PySem.W.Frag) (γ : Hp) (α : List Addr) (F : Hp) (r : SO) (D : Ends) (W : WX) : Prop := match r with
  | .nx δ μ => ∀ α' F' H' σ', α <+: α' → Same F F' → Wd K γ α' F' H' μ → SlIs K α' F' σ' δ → D.nx σ' H'
  | .bk δ μ => ∀ α' F' H' σ', α <+: α' → Same F F' → Wd K γ α' F' H' μ → SlIs K α' F' σ' δ → D.bk σ' H'
  | .ct δ μ => ∀ α' F' H' σ', α <+: α' → Same F F' → Wd K γ α' F' H' μ → SlIs K α' F' σ' δ → D.ct σ' H'
  | .rt d μ => ∀ α' F' H' v, α <+: α' → Same F F' → Wd K γ α' F' H' μ → Is K α' F' v d → D.rt v H'
  | .exc x δ μ => ∀ α' F' H' σ' c dd, α <+: α' → Same F F' → Wd K γ α' F' H' μ → SlIs K α' F' σ' δ → XIs K α' F' x c dd → W c dd σ' H'
  | .bad => False
def tSD (K : PySem.W.Frag) (W : WX) (f : RS) : TS := fun D σ H => ∃ γ α F μ δ, Wd K γ α F H μ ∧ SlIs K α F σ δ ∧ FinS K γ α F (f δ μ) D W
abbrev PSD (X : Cx) (W : WX) (st : Stmt) (f : RS) : Prop := PS X st (tSD X.K W f)
abbrev PSDs (X : Cx) (W : WX) (st : List Stmt) (f : RS) : Prop := PSs X st (tSD X.K W f)
theorem ps_weak {X : Cx} {st : Stmt} {t t' : TS} (h : PS X st t) (i : ∀ D σ H, t' D σ H → t D σ H) : PS X st t' := ⟨fun pins s σ H D I q => h.run pins s σ H D I (i _ _ _ q)⟩
theorem pss_weak {X : Cx} {st : List Stmt} {t t' : TS} (h : PSs X st t) (i : ∀ D σ H, t' D σ H → t D σ H) : PSs X st t' := ⟨fun pins s σ H D I q => h.run pins s σ H D I (i _ _ _ q)⟩
section
variable {K : PySem.W.Frag} {γ : Hp} {α α1 : List Addr} {F F1 H : Hp} {μ : List Ob} {σ : St} {δ : Sl} {W : WX}
theorem FinS.up {r : SO} {D : Ends} (p : α <+: α1) (e : Same F F1) (h : FinS K γ α F r D W) : FinS K γ α1 F1 r D W := by
  cases r with
  | nx δ μ => exact fun α' F' H' σ' p' e' => h α' F' H' σ' (p.trans p') (e.trans e')
  | bk δ μ => exact fun α' F' H' σ' p' e' => h α' F' H' σ' (p.trans p') (e.trans e')
  | ct δ μ => exact fun α' F' H' σ' p' e' => h α' F' H' σ' (p.trans p') (e.trans e')
  | rt d μ => exact fun α' F' H' v p' e' => h α' F' H' v (p.trans p') (e.trans e')
  | exc x δ μ => exact fun α' F' H' σ' c dd p' e' => h α' F' H' σ' c dd (p.trans p') (e.trans e')
  | bad => exact h
/-- an expression in a statement: what it gives is handed on -/
def R.st {β : Type} (r : R β) (δ : Sl) (f : β → List Ob → SO) : SO := match r with
  | .ok b μ => f b μ
  | .exc x μ => .exc x δ μ
  | .bad => .bad
@[simp] theorem R.ok_st {β : Type} (b : β) (μ : List Ob) (δ : Sl) (f : β → List Ob → SO) : (R.ok b μ).st δ f = f b μ := rfl
@[simp] theorem R.exc_st {β : Type} (x : Exn) (μ : List Ob) (δ : Sl) (f : β → List Ob → SO) : (R.exc x μ : R β).st δ f = .exc x δ μ := rfl
@[simp] theorem R.bad_st {β : Type} (δ : Sl) (f : β → List Ob → SO) : (R.bad : R β).st δ f = .bad := rfl
theorem tD_st {f : RE} {g : D → List Ob → SO} {D' : Ends} {Q : VK} (w : Wd K γ α F H μ) (s : SlIs K α F σ δ) (q : FinS K γ α F ((f δ μ).st δ g) D' W)
    (k : ∀ d μ1 α1 F1 H1 v, α <+: α1 → Same F F1 → Wd K γ α1 F1 H1 μ1 → SlIs K α1 F1 σ δ → Is K α1 F1 v d → FinS K γ α1 F1 (g d μ1) D' W → Q v H1) : tD K W f σ H Q := by
  refine ⟨γ, α, F, μ, δ, w, s, ?_⟩
  cases hf : f δ μ with
  | ok d μ1 =>
    rw [hf] at q
    exact fun α1 F1 H1 p e w1 v hv => k d μ1 α1 F1 H1 v p e w1 (s.mono p e) hv (q.up p e)
  | exc x μ1 =>
    rw [hf] at q
    exact fun α' F' H' c dd p e w1 hx => q α' F' H' σ c dd p e w1 (s.mono p e) hx
  | bad =>
    rw [hf] at q
    exact q
theorem tDT_st {f : RT} {g : Bool → List Ob → SO} {D' : Ends} {Q : Bool → Hp → Prop} (w : Wd K γ α F H μ) (s : SlIs K α F σ δ) (q : FinS K γ α F ((f δ μ).st δ g) D' W)
    (k : ∀ d μ1 α1 F1 H1, α <+: α1 → Same F F1 → Wd K γ α1 F1 H1 μ1 → SlIs K α1 F1 σ δ → FinS K γ α1 F1 (g d μ1) D' W → Q d H1) : tDT K W f σ H Q := by
  refine ⟨γ, α, F, μ, δ, w, s, ?_⟩
  cases hf : f δ μ with
  | ok d μ1 =>
    rw [hf] at q
    exact fun α1 F1 H1 p e w1 => k d μ1 α1 F1 H1 p e w1 (s.mono p e) (q.up p e)
  | exc x μ1 =>
    rw [hf] at q
    exact fun α' F' H' c dd p e w1 hx => q α' F' H' σ c dd p e w1 (s.mono p e) hx
  | bad =>
    rw [hf] at q
    exact q
theorem tSD_last {f : RS} {D' : Ends} (w : Wd K γ α F H μ) (s : SlIs K α F σ δ) (q : FinS K γ α F (f δ μ) D' W) : tSD K W f D' σ H := ⟨γ, α, F, μ, δ, w, s, q⟩
theorem FinS.nx_ {D' : Ends} (w : Wd K γ α F H μ) (s : SlIs K α F σ δ) (q : FinS K γ α F (.nx δ μ) D' W) : D'.nx σ H := q α F H σ (List.prefix_refl _) (Same.refl F) w s
end
section
variable {X : Cx} {W : WX} {e c a b o i : Expr} {st : Stmt} {sts rest : List Stmt} {f fa fb fo fi : RE} {ft : RT} {g h : RS} {pos pos' p : Pos}
def rSeq (g h : RS) : RS := fun δ μ => match g δ μ with
  | .nx δ1 μ1 => h δ1 μ1
  | r => r
theorem psd_nil : PSDs X W [] (fun δ μ => .nx δ μ) := pss_weak pss_nil fun D σ H ⟨γ, α, F, μ, δ, w, s, q⟩ => q.nx_ w s
theorem psd_cons (h1 : PSD X W st g) (h2 : PSDs X W rest h) : PSDs X W (st :: rest) (rSeq g h) :=
  pss_weak (pss_cons h1 h2) fun D σ H ⟨γ, α, F, μ, δ, w, s, q⟩ => by
    refine ⟨γ, α, F, μ, δ, w, s, ?_⟩
    unfold rSeq at q
    cases hg : g δ μ with
    | nx δ1 μ1 =>
      rw [hg] at q
      exact fun α' F' H' σ' p e w' s' => ⟨γ, α', F', μ1, δ1, w', s', q.up p e⟩
    | _ => rw [hg] at q; exact q
theorem psd_one (h1 : PSD X W st g) : PSDs X W [st] g := pss_one h1
theorem psd_pass : PSD X W (.Pass pos) (fun δ μ => .nx δ μ) := ps_weak ps_pass fun D σ H ⟨γ, α, F, μ, δ, w, s, q⟩ => q.nx_ w s
theorem psd_break : PSD X W (.Break pos) (fun δ μ => .bk δ μ) := ps_weak ps_break fun D σ H ⟨γ, α, F, μ, δ, w, s, q⟩ => q α F H σ (List.prefix_refl _) (Same.refl F) w s
theorem psd_cont : PSD X W (.Continue pos) (fun δ μ => .ct δ μ) := ps_weak ps_continue fun D σ H ⟨γ, α, F, μ, δ, w, s, q⟩ => q α F H σ (List.prefix_refl _) (Same.refl F) w s
def rDrop (f : RE) : RS := fun δ μ => (f δ μ).st δ fun _ μ1 => .nx δ μ1
theorem psd_expr (he : PD X W e f) (hs : swapsWith e none pos.line X.env = pure false := by rfl) : PSD X W (.Expr e pos) (rDrop f) :=
  ps_weak (ps_expr he hs) fun D σ H ⟨γ, α, F, μ, δ, w, s, q⟩ => tD_st w s q fun d μ1 α1 F1 H1 v p1 e1 w1 s1 hv q1 => q1.nx_ w1 s1
def rRet (f : RE) : RS := fun δ μ => (f δ μ).st δ fun d μ1 => .rt d μ1
theorem psd_ret (he : PD X W e f) : PSD X W (.Return (some e) pos) (rRet f) :=
  ps_weak (ps_ret he) fun D σ H ⟨γ, α, F, μ, δ, w, s, q⟩ => tD_st w s q fun d μ1 α1 F1 H1 v p1 e1 w1 s1 hv q1 => q1 α1 F1 H1 v (List.prefix_refl _) (Same.refl F1) w1 hv
def rIfS (ft : RT) (g h : RS) : RS := fun δ μ => (ft δ μ).st δ fun k μ1 => match k with
  | true => g δ μ1
  | false => h δ μ1
theorem psd_if {sa sb : List Stmt} (hc : PDT X W c ft) (ha : PSDs X W sa g) (hb : PSDs X W sb h) : PSD X W (.If c sa sb pos) (rIfS ft g h) :=
  ps_weak (ps_if hc ha hb) fun D σ H ⟨γ, α, F, μ, δ, w, s, q⟩ => tDT_st w s q fun d μ1 α1 F1 H1 p1 e1 w1 s1 q1 => by
    cases d with
    | true => rw [if_pos rfl]; exact tSD_last w1 s1 q1
    | false => rw [if_neg Bool.false_ne_true]; exact tSD_last w1 s1 q1
/-- code that is never come to -/
theorem psd_never : PSD X W st (fun _ _ => .bad) := ps_weak ps_never fun D σ H ⟨γ, α, F, μ, δ, w, s, q⟩ => q
theorem psds_never : PSDs X W sts (fun _ _ => .bad) := pss_weak pss_never fun D σ H ⟨γ, α, F, μ, δ, w, s, q⟩ => q
/-- name = e -/
def rSet (i : Nat) (f : RE) : RS := fun δ μ => (f δ μ).st δ fun d μ1 => .nx (δ.set i (some d)) μ1
theorem psd_set (i : Nat) {x : Str} (hN : X.N.Nodup) (he : PD X W e f) (hi : X.N[i]? = some x := by rfl) (hx : Loc X.env.scope x := by first | exact Or.inl rfl | exact Or.inr rfl) (hs : swapsWith e (some (.Name x pos')) pos.line X.env = pure false := by rfl) (hf : X.fn x = true ∨ X.env.scope.names.lookup x = some .local := by first | exact .inl rfl | exact .inr rfl | assumption) :
    PSD X W (.Assign [.Name x pos'] e pos) (rSet i f) :=
  ps_weak (ps_set hN hi hx he hs hf) fun D σ H ⟨γ, α, F, μ, δ, w, s, q⟩ => tD_st w s q fun d μ1 α1 F1 H1 v p1 e1 w1 s1 hv q1 => q1.nx_ w1 (s1.set i hv)
/-- a, b, .. = e -/
def rAsg (t : Tg) (f : RE) : RS := fun δ μ => (f δ μ).st δ fun d μ1 => match t.set d δ with
  | some δ1 => .nx δ1 μ1
  | none => .bad
theorem psd_asg {tg : Expr} {t : Tg} (he : PD X W e f) (hg : PDG X tg t) (hs : swapsWithSole [tg] e pos.line X.env = pure false := by rfl) (hw : swappedStores [tg] e X.env = pure none := by rfl)
    (h1 : (assignEach [tg] X.env).map (·.2) = [assign tg X.env] := by rfl) : PSD X W (.Assign [tg] e pos) (rAsg t f) :=
  ps_weak (ps_asg he hg hs hw h1) fun D σ H ⟨γ, α, F, μ, δ, w, s, q⟩ => tD_st w s q fun d μ1 α1 F1 H1 v p1 e1 w1 s1 hv q1 => by
    cases ht : t.set d δ with
    | none => rw [ht] at q1; exact q1.elim
    | some δ1 =>
      rw [ht] at q1
      exact Tg.go w1 s1 hv ht fun σ' s' _ _ => q1.nx_ w1 s'
/-- a, b = x, y -/
def rPar (i j : Nat) (fs : RA) : RS := fun δ μ => (fs δ μ).st δ fun ds μ1 => match ds with
  | [d, e] => .nx ((δ.set i (some d)).set j (some e)) μ1
  | _ => .bad
theorem tDA_st {K : PySem.W.Frag} {γ : Hp} {α : List Addr} {F H : Hp} {μ : List Ob} {σ : St} {δ : Sl} {f : RA} {g : List D → List Ob → SO} {D' : Ends} {Q : List V → Hp → Prop} (w : Wd K γ α F H μ) (s : SlIs K α F σ δ) (q : FinS K γ α F ((f δ μ).st δ g) D' W)
    (k : ∀ d μ1 α1 F1 H1 v, α <+: α1 → Same F F1 → Wd K γ α1 F1 H1 μ1 → SlIs K α1 F1 σ δ → IsL K α1 F1 v d → FinS K γ α1 F1 (g d μ1) D' W → Q v H1) : tDA K W f σ H Q := by
  refine ⟨γ, α, F, μ, δ, w, s, ?_⟩
  cases hf : f δ μ with
  | ok d μ1 =>
    rw [hf] at q
    exact fun α1 F1 H1 p e w1 v hv => k d μ1 α1 F1 H1 v p e w1 (s.mono p e) hv (q.up p e)
  | exc x μ1 =>
    rw [hf] at q
    exact fun α' F' H' c dd p e w1 hx => q α' F' H' σ c dd p e w1 (s.mono p e) hx
  | bad =>
    rw [hf] at q
    exact q
theorem psd_par (i j : Nat) {x y : Str} {px py pt pt2 : Pos} {kt k2 : Nat} {fs : RA} (hc : X.calm = true) (hN : X.N.Nodup) (ha : PDA X W [a, b] fs) (hij : i ≠ j := by decide) (hi : X.N[i]? = some x := by rfl) (hj : X.N[j]? = some y := by rfl)
    (hx : X.env.scope.names.lookup x = some .local := by rfl) (hy : X.env.scope.names.lookup y = some .local := by rfl)
    (hw : swappedStores [.Tuple [.Name x px, .Name y py] kt pt] (.Tuple [a, b] k2 pt2) X.env = pure (some [x, y]) := by rfl)
    (hs : swapsWithSole [.Tuple [.Name x px, .Name y py] kt pt] (.Tuple [a, b] k2 pt2) pos.line X.env = pure false := by rfl) :
    PSD X W (.Assign [.Tuple [.Name x px, .Name y py] kt pt] (.Tuple [a, b] k2 pt2) pos) (rPar i j fs) :=
  ps_weak (ps_par hc hN hi hj hij hx hy ha hw hs) fun D σ H ⟨γ, α, F, μ, δ, w, s, q⟩ => tDA_st w s q fun ds μ1 α1 F1 H1 vs p1 e1 w1 s1 hv q1 => by
    match ds, hv, q1 with
    | [d, e], .cons h1 (.cons h2 .nil), q1 => exact ⟨_, _, rfl, q1.nx_ w1 ((s1.set i h1).set j h2)⟩
    | [], _, q1 => exact q1.elim
    | [_], _, q1 => exact q1.elim
    | _ :: _ :: _ :: _, _, q1 => exact q1.elim
/-- name += e, ints -/
def rAug (i : Nat) (g : Int → Int → Int) (f : RE) : RS := fun δ μ => match δ[i]? with
  | some (some (.int a)) => (f δ μ).st δ fun d μ1 => match d with
    | .int b => .nx (δ.set i (some (.int (g a b)))) μ1
    | _ => .bad
  | _ => .bad
theorem psd_aug (i : Nat) {x : Str} {op : Operator} {gi : Int → Int → Int} (hN : X.N.Nodup) (he : PD X W e f) (ho : PIp X op (ipI gi)) (hi : X.N[i]? = some x := by rfl) (hx : Loc X.env.scope x := by first | exact Or.inl rfl | exact Or.inr rfl) (hf : X.fn x = true ∨ X.env.scope.names.lookup x = some .local := by first | exact .inl rfl | exact .inr rfl | assumption) :
    PSD X W (.AugAssign (.Name x pos') op e pos) (rAug i gi f) :=
  ps_weak (ps_aug hN hi hx he ho hf) fun D σ H ⟨γ, α, F, μ, δ, w, s, q⟩ => by
    unfold rAug at q
    split at q
    · rename_i a0 hd
      obtain ⟨v, h1, h2⟩ := s.at_ i _ hd
      cases h2
      refine ⟨_, h1, tD_st w s q fun d μ1 α1 F1 H1 v p1 e1 w1 s1 hv q1 => ?_⟩
      cases d with
      | int b => cases hv; exact ⟨a0, b, rfl, rfl, q1.nx_ w1 (s1.set i (.int _))⟩
      | _ => exact q1.elim
    · exact q.elim
end

/-! ### what is walked -/
def WalkD (K : PySem.W.Frag) (α : List Addr) (F : Hp) (J : It) (ds : List D) : Prop := ∀ (i : Nat) γ α' F' H μ, α <+: α' → Same F F' → Wd K γ α' F' H μ →
  (∀ d, ds[i]? = some d → J.go i H ∧ ∀ x H', J.yld i H x H' → ∃ F'', Same F' F'' ∧ Wd K γ α' F'' H' μ ∧ Is K α' F'' x d) ∧ (i = ds.length → J.stop i H)
theorem WalkD.mono {K : PySem.W.Frag} {α α1 : List Addr} {F F1 : Hp} {J : It} {ds : List D} (h : WalkD K α F J ds) (p : α <+: α1) (e : Same F F1) : WalkD K α1 F1 J ds := fun i γ α' F' H μ p' e' w => h i γ α' F' H μ (p.trans p') (e.trans e') w
def tDI (K : PySem.W.Frag) (W : WX) (f : RA) : TI := fun σ H R => ∃ γ α F μ δ, Wd K γ α F H μ ∧ SlIs K α F σ δ ∧ Fin K γ α F (f δ μ) (fun ds _ α' F' H' => ∀ J, WalkD K α' F' J ds → R J H') (fun c dd H' => W c dd σ H')
abbrev PDI (X : Cx) (W : WX) (tg iter : Expr) (f : RA) : Prop := PI X tg iter (tDI X.K W f)
theorem pi_weak {X : Cx} {tg e : Expr} {t t' : TI} (h : PI X tg e t) (i : ∀ σ H Q, t' σ H Q → t σ H Q) : PI X tg e t' := ⟨fun pins s σ H Q I q => h.run pins s σ H Q I (i _ _ _ q)⟩
section
variable {K : PySem.W.Frag} {γ : Hp} {α : List Addr} {F H : Hp} {μ : List Ob}
theorem walk_list {a : Addr} {vs : List V} {ds : List D} (h : SqL K F a vs) (l : IsL K α F vs ds) : WalkD K α F (Itl K a) ds := fun i γ α' F' H μ p e w => by
  have h' : SqL K H a vs := w.sub.seq (e.seq h)
  refine ⟨fun d hd => ?_, fun hi => ⟨vs, h', by rw [l.length, hi]; exact Nat.le_refl _⟩⟩
  obtain ⟨v, hv, hvd⟩ := l.get hd
  refine ⟨⟨vs, v, h', hv⟩, fun x H' y => ?_⟩
  obtain ⟨rfl, y⟩ := y
  have := y vs h'
  rw [hv] at this
  cases this
  exact ⟨F', Same.refl F', w, hvd.mono p e⟩
theorem walk_tup {a : Addr} {vs : List V} {ds : List D} (h : SqT K F a vs) (l : IsL K α F vs ds) : WalkD K α F (Itt K a) ds := fun i γ α' F' H μ p e w => by
  have h' : SqT K H a vs := sqt_mono w.sub (sqt_mono e h)
  refine ⟨fun d hd => ?_, fun hi => ⟨vs, h', by rw [l.length, hi]; exact Nat.le_refl _⟩⟩
  obtain ⟨v, hv, hvd⟩ := l.get hd
  refine ⟨⟨vs, v, h', hv⟩, fun x H' y => ?_⟩
  obtain ⟨rfl, y⟩ := y
  have := y vs h'
  rw [hv] at this
  cases this
  exact ⟨F', Same.refl F', w, hvd.mono p e⟩
def upTo (lo : Int) (n : Nat) : List D := (List.range n).map fun k => D.int (lo + (k : Nat))
theorem walk_range {lo : Int} {n : Nat} : WalkD K α F (Itr lo n) (upTo lo n) := fun i γ α' F' H μ p e w => by
  unfold upTo
  refine ⟨fun d hd => ?_, fun hi => ?_⟩
  · rw [List.getElem?_map] at hd
    cases hr : (List.range n)[i]? with
    | none => rw [hr] at hd; cases hd
    | some k =>
      rw [hr] at hd
      obtain ⟨hl, hk⟩ := List.getElem?_eq_some_iff.mp hr
      rw [List.length_range] at hl
      rw [List.getElem_range] at hk
      subst hk
      cases hd
      refine ⟨hl, fun x H' y => ?_⟩
      obtain ⟨rfl, rfl⟩ := y
      exact ⟨F', Same.refl F', w, .int _⟩
  · rw [List.length_map, List.length_range] at hi
    show n ≤ i
    omega
end
end DL

/-! The data layer, f: what is walked, for, comprehensions. -/
namespace DL
open PySem L2

def Key.d : Key → D
  | .inl i => .int i
  | .inr s => .str s
def itemsD : D → Option (List D)
  | .lst xs => some xs
  | .frl xs => some xs
  | .tup xs => some xs
  | .dct ks _ => some (ks.map Key.d)
  | _ => none
section
variable {K : PySem.W.Frag} {γ : Hp} {α : List Addr} {F H : Hp} {μ : List Ob} {W : WX}
theorem key_is {k : Key} : Is K α F (kV k) (Key.d k) := by
  cases k with
  | inl i => exact .int i
  | inr s => exact .str s
theorem walk_keys {a : Addr} {o : Obj} {kvs : List (Key × V)} (h : F a = some (.frz o (.dK kvs))) : WalkD K α F (Itk a o kvs) ((kvs.map (·.1)).map Key.d) := fun i γ α' F' H μ p e w => by
  have h' : H a = some (.frz o (.dK kvs)) := w.sub _ _ (e _ _ h)
  rw [List.map_map]
  refine ⟨fun d hd => ?_, fun hi => ⟨h', by rw [List.length_map] at hi; omega⟩⟩
  rw [List.getElem?_map] at hd
  cases hk : kvs[i]? with
  | none => rw [hk] at hd; cases hd
  | some kv =>
    rw [hk] at hd
    cases hd
    refine ⟨⟨h', (List.getElem?_eq_some_iff.mp hk).1⟩, fun x H' y => ?_⟩
    obtain ⟨rfl, k, v, hy, rfl⟩ := y
    rw [hk] at hy
    cases hy
    exact ⟨F', Same.refl F', w, key_is⟩
theorem walk_items {a : Addr} {o : Obj} {kvs : List (Key × V)} {ds : List D} (h : F a = some (.frz o (.dK kvs))) (l : IsL K α F (kvs.map (·.2)) ds) :
    WalkD K α F (Iti a o kvs) (((kvs.map (·.1)).zip ds).map fun q => D.tup [Key.d q.1, q.2]) := fun i γ α' F' H μ p e w => by
  have h' : H a = some (.frz o (.dK kvs)) := w.sub _ _ (e _ _ h)
  have hlen : ds.length = kvs.length := by rw [← l.length, List.length_map]
  refine ⟨fun d hd => ?_, fun hi => ⟨h', by rw [List.length_map, List.length_zip, List.length_map, hlen] at hi; omega⟩⟩
  rw [List.getElem?_map] at hd
  cases hz : ((kvs.map (·.1)).zip ds)[i]? with
  | none => rw [hz] at hd; cases hd
  | some q =>
    rw [hz] at hd
    cases hd
    obtain ⟨q1, q2⟩ := q
    rw [List.getElem?_zip_eq_some] at hz
    obtain ⟨z1, z2⟩ := hz
    rw [List.getElem?_map] at z1
    cases hk : kvs[i]? with
    | none => rw [hk] at z1; cases z1
    | some kv =>
      rw [hk] at z1
      cases z1
      obtain ⟨v, hv, hvd⟩ := l.get z2
      rw [List.getElem?_map, hk] at hv
      cases hv
      refine ⟨⟨h', (List.getElem?_eq_some_iff.mp hk).1⟩, fun x H' y => ?_⟩
      obtain ⟨T, k, v, hy, rfl, hT, rfl⟩ := y
      rw [hk] at hy
      cases hy
      have sn := same_new (o := .tup [kV k, v]) (w.sub.free hT)
      exact ⟨_, sn, w.lay hT, .tup (.inl (.inl upd_same)) (.cons key_is (.cons (hvd.mono p (e.trans sn)) .nil))⟩
/-- any list, tuple, dict that stands still -/
def iAny (K : PySem.W.Frag) (tl : TE) : TI := fun σ H R => tl σ H fun x H1 => ∃ a, x = .ref a ∧
  (((∃ xs, SqL K H1 a xs) ∧ R (Itl K a) H1) ∨ ((∃ xs, SqT K H1 a xs) ∧ R (Itt K a) H1) ∨ ∃ o kvs, H1 a = some (.frz o (.dK kvs)) ∧ R (Itk a o kvs) H1)
theorem pi_any {X : Cx} {tg l : Expr} {tl : TE} (hl : PE X l tl) : PI X tg l (iAny X.K tl) := by
  refine ⟨fun pins s σ H R I h => thn (hl.run pins s σ H _ I h) fun v s1 ⟨x, H1, I1, r1, a, e, q1⟩ => ?_⟩
  subst e
  cases r1
  rcases q1 with ⟨⟨xs, hq⟩, q⟩ | ⟨⟨xs, hq⟩, q⟩ | ⟨o, kvs, hd, q⟩
  · obtain ⟨its, rv, p, hz⟩ := I1.list hq
    exact wpAny_pyIter_list p.isList (pi_one (tk := s1.toks) I1 _ (turn_list a _) ⟨_, Heap.get?_push_size _ rfl, rfl, rfl⟩ q)
  · obtain ⟨its, rv, p, hz⟩ := I1.tuple hq
    exact wpAny_pyIter_tuple (show s1.heap.IsTuple a its.toArray from p) (pi_one (tk := s1.toks) I1 _ (turn_tuple a _) ⟨_, Heap.get?_push_size _ rfl, rfl, rfl⟩ q)
  · obtain ⟨hs, hgd, hx, es, ep, vs, hdt, hsz, kv, hm⟩ := I1.frzK hd
    refine iter_keys hs hgd hx hdt (pi_one (tk := s1.toks) I1 _ (turn_keys _ hdt) ⟨_, Heap.get?_push_size _ rfl, rfl, ?_⟩ q)
    rw [hsz]; rfl
def rItems (f : RE) : RA := fun δ μ => (f δ μ).bind fun d μ1 => match itemsD d with
  | some xs => .ok xs μ1
  | none => .bad
theorem pdi_any {X : Cx} {tg l : Expr} {f : RE} (hl : PD X W l f) : PDI X W tg l (rItems f) :=
  pi_weak (pi_any hl) fun σ H Rw ⟨γ, α, F, μ, δ, w, s, q⟩ => tD_go w s q fun d μ1 α1 F1 H1 x p1 e1 w1 s1 hx q1 => by
    have fin : ∀ {J : It} {xs : List D}, WalkD X.K α1 F1 J xs → Fin X.K γ α1 F1 (R.ok xs μ1) (fun ds _ α' F' H' => ∀ J, WalkD X.K α' F' J ds → Rw J H') (fun c dd H' => W c dd σ H') → Rw J H1 := fun h q => q α1 F1 H1 (List.prefix_refl _) (Same.refl F1) w1 _ h
    cases hx with
    | lst h l => exact ⟨_, rfl, .inl ⟨⟨_, .inl (.inl (w1.sub _ _ h))⟩, fin (walk_list (.inl (.inl h)) l) q1⟩⟩
    | frl h l => exact ⟨_, rfl, .inl ⟨⟨_, w1.sub.seq h⟩, fin (walk_list h l) q1⟩⟩
    | tup h l => exact ⟨_, rfl, .inr (.inl ⟨⟨_, sqt_mono w1.sub h⟩, fin (walk_tup h l) q1⟩)⟩
    | dct h e l =>
      obtain ⟨o, h⟩ := h
      subst e
      exact ⟨_, rfl, .inr (.inr ⟨o, _, w1.sub _ _ h, fin (walk_keys h) q1⟩)⟩
    | _ => exact q1.elim
/-- range(n), range(a, b) -/
def rRange1 (fs : RA) : RA := fun δ μ => (fs δ μ).bind fun ds μ1 => match ds with
  | [.int j] => if -(2 ^ 62) ≤ j ∧ j < 2 ^ 62 then .ok (upTo 0 j.toNat) μ1 else .bad
  | _ => .bad
def rRange2 (fs : RA) : RA := fun δ μ => (fs δ μ).bind fun ds μ1 => match ds with
  | [.int i, .int j] => if -(2 ^ 62) ≤ i ∧ i < 2 ^ 62 ∧ -(2 ^ 62) ≤ j ∧ j < 2 ^ 62 then .ok (upTo i (j - i).toNat) μ1 else .bad
  | _ => .bad
theorem pdi_range1 {X : Cx} {tg a : Expr} {fs : RA} {p pos : Pos} (hg : Gl X "range") (hm : X.mg "range" = none) (ha : PDA X W [a] fs) (hs : starEach [a] X.env = [(false, eval a X.env)] := by rfl) : PDI X W tg (.Call (.Name "range" p) [a] [] pos) (rRange1 fs) :=
  pi_weak (pi_range1 hg hm ha hs) fun σ H R ⟨γ, α, F, μ, δ, w, s, q⟩ => tDA_go w s q fun ds μ1 α1 F1 H1 x p1 e1 w1 s1 hx q1 => by
    split at q1
    · rename_i j
      split at q1
      · rename_i hj
        cases hx with
        | cons h l =>
          cases l; cases h
          exact ⟨j, rfl, hj.1, hj.2, q1 α1 F1 H1 (List.prefix_refl _) (Same.refl F1) w1 _ walk_range⟩
      · exact q1.elim
    · exact q1.elim
theorem pdi_range2 {X : Cx} {tg a b : Expr} {fs : RA} {p pos : Pos} (hg : Gl X "range") (hm : X.mg "range" = none) (ha : PDA X W [a, b] fs) (hs : starEach [a, b] X.env = [(false, eval a X.env), (false, eval b X.env)] := by rfl) (hs2 : starEach [b] X.env = [(false, eval b X.env)] := by rfl) :
    PDI X W tg (.Call (.Name "range" p) [a, b] [] pos) (rRange2 fs) :=
  pi_weak (pi_range2 hg hm ha hs hs2) fun σ H R ⟨γ, α, F, μ, δ, w, s, q⟩ => tDA_go w s q fun ds μ1 α1 F1 H1 x p1 e1 w1 s1 hx q1 => by
    split at q1
    · rename_i i j
      split at q1
      · rename_i hj
        cases hx with
        | cons h l =>
          cases h
          cases l with
          | cons h l =>
            cases l; cases h
            exact ⟨i, j, rfl, hj, q1 α1 F1 H1 (List.prefix_refl _) (Same.refl F1) w1 _ walk_range⟩
      · exact q1.elim
    · exact q1.elim
/-- d.items() -/
def rItemsM (f : RE) : RA := fun δ μ => (f δ μ).bind fun d μ1 => match d with
  | .dct ks xs => .ok ((ks.zip xs).map fun q => D.tup [Key.d q.1, q.2]) μ1
  | _ => .bad
theorem pdi_items {X : Cx} {e : Expr} {elts : List Expr} {kk : Nat} {tpos apos cpos : Pos} {f : RE} (he : PD X W e f) (hbase : attributeBase e "items" X.env (eval e X.env) = eval e X.env := by rfl) (hline : (apos.endLine == cpos.line) = true := by rfl) :
    PDI X W (.Tuple elts kk tpos) (.Call (.Attribute e "items" apos) [] [] cpos) (rItemsM f) :=
  pi_weak (pi_items he hbase hline) fun σ H R ⟨γ, α, F, μ, δ, w, s, q⟩ => tD_go w s q fun d μ1 α1 F1 H1 x p1 e1 w1 s1 hx q1 => by
    cases hx with
    | dct h e l =>
      obtain ⟨o, h⟩ := h
      subst e
      exact ⟨_, o, _, rfl, w1.sub _ _ h, q1 α1 F1 H1 (List.prefix_refl _) (Same.refl F1) w1 _ (walk_items h l)⟩
    | _ => exact q1.elim
end

/-! ### for -/
def forL (t : Tg) (body : RS) : List D → RS
  | [] => fun δ μ => .nx δ μ
  | x :: xs => fun δ μ => match t.set x δ with
    | none => .bad
    | some δ1 => match body δ1 μ with
      | .nx δ2 μ2 => forL t body xs δ2 μ2
      | .ct δ2 μ2 => forL t body xs δ2 μ2
      | .bk δ2 μ2 => .nx δ2 μ2
      | r => r
def rFor (fi : RA) (t : Tg) (body : RS) : RS := fun δ μ => (fi δ μ).st δ fun ds μ1 => forL t body ds δ μ1
theorem psd_for {X : Cx} {W : WX} {tg iter : Expr} {body : List Stmt} {fi : RA} {t : Tg} {fb : RS} {pos : Pos} (hp : PassesOwn (model X.prog X.w) X.A X.env X.xe) (hc : X.calm = true) (hi : PDI X W tg iter fi) (hg : PDG X tg t) (hb : PSDs X W body fb)
    (hs : ∀ x, foldedSetIterable iter X.env x = pure x := by intro _; rfl) : PSD X W (.For tg iter body [] pos) (rFor fi t fb) :=
  ps_weak (ps_for hp hc hi hg hb hs) fun D σ H ⟨γ, α, F, μ, δ, w, s, q⟩ => by
    refine ⟨γ, α, F, μ, δ, w, s, ?_⟩
    unfold rFor at q
    cases hf : fi δ μ with
    | bad => rw [hf] at q; exact q
    | exc x μ1 => rw [hf] at q; exact fun α' F' H' c dd p e w1 hx => q α' F' H' σ c dd p e w1 (s.mono p e) hx
    | ok ds μ1 =>
      rw [hf] at q
      intro α1 F1 H1 p1 e1 w1 J hJ
      have q1 := q.up p1 e1
      have s1 := s.mono p1 e1
      refine ⟨fun i m σ H => m = ds.length - i ∧ i ≤ ds.length ∧ ∃ α' F' μ' δ', Wd X.K γ α' F' H μ' ∧ SlIs X.K α' F' σ δ' ∧ WalkD X.K α' F' J ds ∧ FinS X.K γ α' F' (forL t fb (ds.drop i) δ' μ') D W,
        ⟨ds.length, by simp, Nat.zero_le _, α1, F1, μ1, δ, w1, s1, hJ, q1⟩, ?_⟩
      rintro i m σ2 H2 ⟨rfl, hi, α2, F2, μ2, δ2, w2, s2, hJ2, q2⟩
      obtain ⟨j1, j2⟩ := hJ2 i γ α2 F2 H2 μ2 (List.prefix_refl _) (Same.refl F2) w2
      by_cases hlt : i < ds.length
      · obtain ⟨hgo, hy⟩ := j1 ds[i] (List.getElem?_eq_getElem hlt)
        rw [List.drop_eq_getElem_cons hlt] at q2
        unfold forL at q2
        right
        refine ⟨hgo, fun σ' H' => i + 1 ≤ ds.length ∧ ∃ α' F' μ' δ', Wd X.K γ α' F' H' μ' ∧ SlIs X.K α' F' σ' δ' ∧ WalkD X.K α' F' J ds ∧ FinS X.K γ α' F' (forL t fb (ds.drop (i + 1)) δ' μ') D W,
          fun σ' H' n => ⟨ds.length - (i + 1), by omega, rfl, n.1, n.2⟩, fun x H3 y => ?_⟩
        obtain ⟨F3, e3, w3, hx⟩ := hy x H3 y
        have q3 := q2.up (List.prefix_refl _) e3
        have s3 := s2.mono (List.prefix_refl _) e3
        have hJ3 := hJ2.mono (List.prefix_refl _) e3
        cases ht : t.set ds[i] δ2 with
        | none => rw [ht] at q3; exact q3.elim
        | some δ3 =>
          rw [ht] at q3
          refine Tg.go w3 s3 hx ht fun σ4 s4 _ _ => ⟨γ, α2, F3, μ2, δ3, w3, s4, ?_⟩
          dsimp only at q3
          cases hbd : fb δ3 μ2 with
          | nx δ5 μ5 =>
            rw [hbd] at q3
            exact fun α5 F5 H5 σ5 p5 e5 w5 s5 => ⟨hlt, α5, F5, μ5, δ5, w5, s5, hJ3.mono p5 e5, q3.up p5 e5⟩
          | ct δ5 μ5 =>
            rw [hbd] at q3
            exact fun α5 F5 H5 σ5 p5 e5 w5 s5 => ⟨hlt, α5, F5, μ5, δ5, w5, s5, hJ3.mono p5 e5, q3.up p5 e5⟩
          | bk δ5 μ5 => rw [hbd] at q3; exact q3
          | rt d μ5 => rw [hbd] at q3; exact q3
          | exc x δ5 μ5 => rw [hbd] at q3; exact q3
          | bad => rw [hbd] at q3; exact q3
      · have e : i = ds.length := by omega
        subst e
        rw [List.drop_length] at q2
        exact .inl ⟨j2 rfl, q2.nx_ w2 s2⟩

/-! ### comprehensions -/
abbrev W0 : WX := fun _ _ _ _ => False
/-- the element's readings: nothing raises within -/
def compL (t : Tg) (vs : List Nat) (ft : RT) (fe : RE) : List D → Sl → List Ob → List D → R (List D)
  | [], _, μ, acc => .ok acc μ
  | x :: xs, δ, μ, acc => match t.set x (wipeD δ vs) with
    | none => .bad
    | some δ1 => match ft δ1 μ with
      | .ok true μ1 => match fe δ1 μ1 with
        | .ok y μ2 => if acc.length < 16777216 then compL t vs ft fe xs δ μ2 (acc ++ [y]) else .bad
        | _ => .bad
      | .ok false μ1 => compL t vs ft fe xs δ μ1 acc
      | _ => .bad
def rYes : RT := fun _ μ => .ok true μ
def rLc (fi : RA) (t : Tg) (vs : List Nat) (ft : RT) (fe : RE) : RE := fun δ μ => (fi δ μ).bind fun ds μ1 => (compL t vs ft fe ds δ μ1 []).bind fun ys μ2 => .ok (.lst ys) μ2
abbrev PDTs (X : Cx) (W : WX) (es : List Expr) (f : RT) : Prop := PTs X es (tDT X.K W f)
theorem pts_weak {X : Cx} {e : List Expr} {t t' : TT} (h : PTs X e t) (i : ∀ σ H Q, t' σ H Q → t σ H Q) : PTs X e t' := ⟨fun pins s σ H Q I q => h.run pins s σ H Q I (i _ _ _ q)⟩
theorem pdts_nil {X : Cx} {W : WX} : PDTs X W [] rYes := pts_weak pts_nil fun σ H Q ⟨γ, α, F, μ, δ, w, s, q⟩ => q α F H (List.prefix_refl _) (Same.refl F) w
theorem pdts_one {X : Cx} {W : WX} {c : Expr} {ft : RT} (h : PDT X W c ft) : PDTs X W [c] ft := pts_one h
section
variable {K : PySem.W.Frag} {W : WX}
theorem Wd.gnew {γ : Hp} {α : List Addr} {F H : Hp} {μ : List Ob} {p : Addr} {o : HO} (w : Wd K γ α F H μ) (hp : H p = none) : Wd K (upd γ p o) α F (upd H p o) μ := by
  have w1 := w.lay0 (o := o) hp
  refine ⟨w1.len, w1.inj, w1.sub, w1.there, w1.apart, w1.obj, same_both w.gs, fun a h => ?_, fun k a h => ?_⟩
  · by_cases e : a = p
    · rw [e]; exact w.sub.free hp
    · rw [upd_ne e] at h; exact w.gf a h
  · have ne : a ≠ p := fun e => w.there k a h (by rw [e]; exact hp)
    rw [upd_ne ne]
    exact w.ga k a h
theorem Wd.gput {γ : Hp} {α : List Addr} {F H : Hp} {μ : List Ob} {p : Addr} {o o' : HO} (w : Wd K (upd γ p o) α F H μ) (hp : γ p = none) : Wd K (upd γ p o') α F (upd H p o') μ := by
  have fp : F p = none := w.gf p (by rw [upd_same]; exact Option.some_ne_none _)
  have np : ∀ (k : Nat) a, α[k]? = some a → a ≠ p := fun k a h e => by
    have := w.ga k a h
    rw [e, upd_same] at this
    cases this
  refine ⟨w.len, w.inj, same_upd w.sub fp, fun k a h => ?_, w.apart, fun k a ob h1 h2 => ?_, fun b u hb => ?_, fun a h => ?_, fun k a h => ?_⟩
  · rw [upd_ne (np k a h)]; exact w.there k a h
  · exact (w.obj k a ob h1 h2).mono (List.prefix_refl _) (Same.refl F) (upd_ne (np k a h1))
  · by_cases e : b = p
    · rw [e, upd_same] at hb ⊢
      exact hb
    · rw [upd_ne e] at hb ⊢
      exact w.gs b u (by rw [upd_ne e]; exact hb)
  · by_cases e : a = p
    · rw [e]; exact fp
    · rw [upd_ne e] at h
      exact w.gf a (by rw [upd_ne e]; exact h)
  · have := w.ga k a h
    rw [upd_ne (np k a h)] at this ⊢
    exact this
theorem Wd.gfrz {γ : Hp} {α : List Addr} {F H : Hp} {μ : List Ob} {p : Addr} {o : HO} (w : Wd K (upd γ p o) α F H μ) (hp : γ p = none) : Wd K γ α (upd F p o) H μ := by
  have fp : F p = none := w.gf p (by rw [upd_same]; exact Option.some_ne_none _)
  have hh : H p = some o := w.gs p o upd_same
  have np : ∀ (k : Nat) a, α[k]? = some a → a ≠ p := fun k a h e => by
    have := w.ga k a h
    rw [e, upd_same] at this
    cases this
  refine ⟨w.len, w.inj, fun b u hb => ?_, w.there, fun k a ob h1 h2 h3 => ?_, fun k a ob h1 h2 => ?_, fun b u hb => ?_, fun a h => ?_, fun k a h => ?_⟩
  · by_cases e : b = p
    · rw [e, upd_same] at hb
      rw [e, hh]
      exact hb
    · rw [upd_ne e] at hb
      exact w.sub b u hb
  · rw [upd_ne (np k a h1)]
    exact w.apart k a ob h1 h2 h3
  · exact (w.obj k a ob h1 h2).mono (List.prefix_refl _) (same_new fp) rfl
  · have ne : b ≠ p := fun e => by rw [e, hp] at hb; cases hb
    exact w.gs b u (by rw [upd_ne ne]; exact hb)
  · have ne : a ≠ p := fun e => h (by rw [e]; exact hp)
    rw [upd_ne ne]
    exact w.gf a (by rw [upd_ne ne]; exact h)
  · have := w.ga k a h
    rw [upd_ne (np k a h)] at this
    exact this
/-- .. becomes an object of the store -/
theorem Wd.gobj {γ : Hp} {α : List Addr} {F H : Hp} {μ : List Ob} {p : Addr} {o : HO} {ob : Ob} (w : Wd K (upd γ p o) α F H μ) (hp : γ p = none) (h : ObIs K (α ++ [p]) F H p ob) : Wd K γ (α ++ [p]) F H (μ ++ [ob]) := by
  have fp : F p = none := w.gf p (by rw [upd_same]; exact Option.some_ne_none _)
  have hh : H p = some o := w.gs p o upd_same
  have np : ∀ (k : Nat) a, α[k]? = some a → a ≠ p := fun k a h e => by
    have := w.ga k a h
    rw [e, upd_same] at this
    cases this
  have spl : ∀ (k : Nat) a, (α ++ [p])[k]? = some a → α[k]? = some a ∨ (k = α.length ∧ a = p) := fun k a h1 => by
    by_cases hk : k < α.length
    · rw [List.getElem?_append_left hk] at h1
      exact .inl h1
    · have hl := (List.getElem?_eq_some_iff.mp h1).1
      rw [List.length_append, List.length_singleton] at hl
      have e : k = α.length := by omega
      subst e
      rw [List.getElem?_concat_length] at h1
      exact .inr ⟨rfl, (Option.some.inj h1).symm⟩
  refine ⟨by rw [List.length_append, List.length_append, w.len]; rfl, fun i j a h1 h2 => ?_, w.sub, fun k a h1 => ?_, fun k a ob' h1 h2 h3 => ?_, fun k a ob' h1 h2 => ?_, fun b u hb => ?_, fun a h1 => ?_, fun k a h1 => ?_⟩
  · rcases spl i a h1 with x | ⟨x, y⟩ <;> rcases spl j a h2 with z | ⟨z, u⟩
    · exact w.inj i j a x z
    · exact absurd u (np i a x)
    · exact absurd y (np j a z)
    · rw [x, z]
  · rcases spl k a h1 with x | ⟨x, y⟩
    · exact w.there k a x
    · rw [y, hh]
      exact Option.some_ne_none _
  · rcases spl k a h1 with x | ⟨x, y⟩
    · have hk := (List.getElem?_eq_some_iff.mp x).1
      rw [w.len] at hk
      rw [List.getElem?_append_left hk] at h2
      exact w.apart k a ob' x h2 h3
    · rw [y]; exact fp
  · rcases spl k a h1 with x | ⟨x, y⟩
    · have hk := (List.getElem?_eq_some_iff.mp x).1
      rw [w.len] at hk
      rw [List.getElem?_append_left hk] at h2
      exact (w.obj k a ob' x h2).mono (List.prefix_append _ _) (Same.refl F) rfl
    · rw [x, w.len, List.getElem?_concat_length] at h2
      cases h2
      rw [y]
      exact h
  · have ne : b ≠ p := fun e => by rw [e, hp] at hb; cases hb
    exact w.gs b u (by rw [upd_ne ne]; exact hb)
  · have ne : a ≠ p := fun e => h1 (by rw [e]; exact hp)
    exact w.gf a (by rw [upd_ne ne]; exact h1)
  · rcases spl k a h1 with x | ⟨x, y⟩
    · have := w.ga k a x
      rw [upd_ne (np k a x)] at this
      exact this
    · rw [y]; exact hp
theorem wipe_wipe (σ : St) (vs : List Nat) : L2.wipe (L2.wipe σ vs) vs = L2.wipe σ vs := by
  have comm : ∀ (vs : List Nat) (σ : St) (i : Nat), L2.wipe (σ.set i none) vs = (L2.wipe σ vs).set i none := by
    intro vs
    induction vs with
    | nil => intro σ i; rfl
    | cons j vs ih =>
      intro σ i
      show (L2.wipe (σ.set i none) vs).set j none = ((L2.wipe σ vs).set j none).set i none
      rw [ih]
      by_cases e : i = j
      · rw [e]
      · rw [List.set_comm _ _ e]
  induction vs generalizing σ with
  | nil => rfl
  | cons j vs ih =>
    show (L2.wipe ((L2.wipe σ vs).set j none) vs).set j none = (L2.wipe σ vs).set j none
    rw [comm, ih, List.set_set]
/-- a comprehension -/
theorem tD_lc {fi : RA} {t : Tg} {vs : List Nat} {ft : RT} {fe : RE} (hv : ∀ i ∈ t.slots, i ∈ vs) (σ : St) (H : Hp) (Q : VK) (h : tD K W (rLc fi t vs ft fe) σ H Q) : tLc (tDI K W fi) (t.rd K) (tDT K W0 ft) (tD K W0 fe) vs σ H Q := by
  obtain ⟨γ, α, F, μ, δ, w, s, q⟩ := h
  refine ⟨γ, α, F, μ, δ, w, s, ?_⟩
  unfold rLc at q
  cases hf : fi δ μ with
  | bad => rw [hf] at q; exact q
  | exc x μ1 => rw [hf] at q; exact q
  | ok ds μ1 =>
    rw [hf] at q
    intro α1 F1 H1 p1 e1 w1 J hJ Dl hD
    have q1 := Fin.up p1 e1 q
    have s1 := s.mono p1 e1
    rw [R.ok_bind] at q1
    have gD : γ Dl = none := w1.gs.free hD
    refine ⟨fun i m H => m = ds.length - i ∧ i ≤ ds.length ∧ ∃ α' F' μ' acc ys, Wd K (upd γ Dl (.lst ys)) α' F' H μ' ∧ SlIs K α' F' σ δ ∧ WalkD K α' F' J ds ∧ IsL K α' F' ys acc ∧
        Fin K γ α' F' ((compL t vs ft fe (ds.drop i) δ μ' acc).bind fun ys μ2 => .ok (.lst ys) μ2) (okD K Q) (fun c dd H' => W c dd σ H'),
      ⟨ds.length, by simp, Nat.zero_le _, α1, F1, μ1, [], [], w1.gnew hD, s1, hJ, .nil, by rw [List.drop_zero]; exact q1⟩, ?_⟩
    rintro i m H2 ⟨rfl, hi, α2, F2, μ2, acc, ys, w2, s2, hJ2, hl, q2⟩
    obtain ⟨j1, j2⟩ := hJ2 i _ α2 F2 H2 μ2 (List.prefix_refl _) (Same.refl F2) w2
    by_cases hlt : i < ds.length
    · obtain ⟨hgo, hy⟩ := j1 ds[i] (List.getElem?_eq_getElem hlt)
      rw [List.drop_eq_getElem_cons hlt] at q2
      unfold compL at q2
      right
      refine ⟨hgo, fun H' => i + 1 ≤ ds.length ∧ ∃ α' F' μ' acc ys, Wd K (upd γ Dl (.lst ys)) α' F' H' μ' ∧ SlIs K α' F' σ δ ∧ WalkD K α' F' J ds ∧ IsL K α' F' ys acc ∧
          Fin K γ α' F' ((compL t vs ft fe (ds.drop (i + 1)) δ μ' acc).bind fun ys μ2 => .ok (.lst ys) μ2) (okD K Q) (fun c dd H' => W c dd σ H'),
        fun H' n => ⟨ds.length - (i + 1), by omega, rfl, n.1, n.2⟩, fun x H3 y => ?_⟩
      obtain ⟨F3, e3, w3, hx⟩ := hy x H3 y
      have q3 := Fin.up (List.prefix_refl _) e3 q2
      have s3 := s2.mono (List.prefix_refl _) e3
      cases ht : t.set ds[i] (wipeD δ vs) with
      | none => rw [ht] at q3; exact q3.elim
      | some δ3 =>
        rw [ht] at q3
        refine Tg.go w3 (s3.wipe vs) hx ht fun σ4 s4 hw4 _ => ⟨?_, ?_⟩
        · rw [hw4 vs hv]
          exact wipe_wipe σ vs
        · refine ⟨_, α2, F3, μ2, δ3, w3, s4, ?_⟩
          dsimp only at q3
          cases hft : ft δ3 μ2 with
          | bad => rw [hft] at q3; exact q3.elim
          | exc x μ4 => rw [hft] at q3; exact q3.elim
          | ok b μ4 =>
            rw [hft] at q3
            intro α4 F4 H4 p4 e4 w4
            have q4 := Fin.up p4 e4 q3
            cases b with
            | false =>
              exact iteF ⟨hlt, α4, F4, μ4, acc, ys, w4, s3.mono p4 e4, hJ2.mono p4 (e3.trans e4), hl.mono p4 (e3.trans e4), q4⟩
            | true =>
              refine iteT ⟨_, α4, F4, μ4, δ3, w4, s4.mono p4 e4, ?_⟩
              dsimp only at q4
              cases hfe : fe δ3 μ4 with
              | bad => rw [hfe] at q4; exact q4.elim
              | exc x μ5 => rw [hfe] at q4; exact q4.elim
              | ok z μ5 =>
                rw [hfe] at q4
                intro α5 F5 H5 p5 e5 w5 v hvz
                have q5 := Fin.up p5 e5 q4
                dsimp only at q5
                by_cases hz : acc.length < 16777216
                · rw [if_pos hz] at q5
                  have hl5 := hl.mono (p4.trans p5) ((e3.trans e4).trans e5)
                  refine ⟨ys, w5.gs _ _ upd_same, by rw [hl5.length, sizeLine_eq]; exact hz, hlt, α5, F5, μ5, acc ++ [z], ys ++ [v], w5.gput gD, (s3.mono p4 e4).mono p5 e5, hJ2.mono (p4.trans p5) ((e3.trans e4).trans e5), hl5.append (.cons hvz .nil), q5⟩
                · rw [if_neg hz] at q5; exact q5.elim
    · have e : i = ds.length := by omega
      subst e
      rw [List.drop_length] at q2
      left
      refine ⟨j2 rfl, ?_⟩
      unfold compL at q2
      have fD : F2 Dl = none := w2.gf Dl (by rw [upd_same]; exact Option.some_ne_none _)
      have sn := same_new (o := .lst ys) fD
      exact q2 α2 _ H2 (List.prefix_refl _) sn (w2.gfrz gD) _ (.lst upd_same (hl.mono (List.prefix_refl _) sn))
end
end DL

/-! The data layer, g: comprehensions as rules, calls of the text's own defs, a def's contract by its body. -/
namespace DL
open PySem L2

/-- what a place in the code must have -/
structure Good (X : Cx) (W : WX) (k : Nat) : Prop where
  hr : Room k X.A
  calm : X.calm = true
  nd : X.N.Nodup
  tk : Takes X W
  po : PassesOwn (model X.prog X.w) X.A X.env X.xe
theorem Good.blk {X : Cx} {W : WX} {k : Nat} (g : Good X W k) (s : Shared) (H : Hp) (scope : Scope) (cenv : Env) (fp : List Addr) : Good (X.blk s H scope cenv fp) W0 k :=
  ⟨g.hr, g.calm, g.nd, takes0, PassesOwn.never⟩
theorem Good.mono {X : Cx} {W : WX} {k j : Nat} (g : Good X W k) (h : j ≤ k) : Good X W j := ⟨g.hr.mono h, g.calm, g.nd, g.tk, g.po⟩
theorem Good.hu {X : Cx} {W : WX} {k : Nat} (g : Good X W k) : X.A.units + 65 < cLine := by have := g.hr.un; omega

section
variable {X : Cx} {W : WX} {k : Nat}
theorem pd_lc {elt tg iter : Expr} {ifs : List Expr} {scope : Scope} {own : List (Str × Nat)} {pos : Pos} {fi : RA} {t : Tg} {ft : RT} {fe : RE} (g : Good X W k) (hi : PDI X W tg iter fi) (ok : BlkOk X.N X.env.scope scope own) (hv : ∀ i ∈ t.slots, i ∈ own.map (·.2))
    (hg : ∀ (s : Shared) (H : Hp) (C : Addr) (cl : List (Str × Addr)) (fp : List Addr), PDG (X.blk s H scope (compEnvC scope cl C X.env) fp) tg t)
    (ht : ∀ (s : Shared) (H : Hp) (C : Addr) (cl : List (Str × Addr)) (fp : List Addr), Good (X.blk s H scope (compEnvC scope cl C X.env) fp) W0 k → PDTs (X.blk s H scope (compEnvC scope cl C X.env) fp) W0 ifs ft)
    (he : ∀ (s : Shared) (H : Hp) (C : Addr) (cl : List (Str × Addr)) (fp : List Addr), Good (X.blk s H scope (compEnvC scope cl C X.env) fp) W0 k → PD (X.blk s H scope (compEnvC scope cl C X.env) fp) W0 elt fe)
    (hs : ∀ x, foldedSetIterable iter X.env x = pure x := by intro _; rfl) : PD X W (.ListComp elt [⟨tg, iter, ifs, 0⟩] scope pos) (rLc fi t (own.map (·.2)) ft fe) :=
  pe_weak (pe_lc g.calm g.nd hi ok hg (fun s H C cl fp => ht s H C cl fp (g.blk s H scope _ fp)) (fun s H C cl fp => he s H C cl fp (g.blk s H scope _ fp)) hs) (tD_lc hv)
theorem psd_setLc (i : Nat) {y : Str} {py spos : Pos} {elt tg iter : Expr} {ifs : List Expr} {scope : Scope} {own : List (Str × Nat)} {pos : Pos} {fi : RA} {t : Tg} {ft : RT} {fe : RE} (g : Good X W k)
    (hsw : swapsWith (.ListComp elt [⟨tg, iter, ifs, 0⟩] scope pos) (some (.Name y py)) spos.line X.env = pure true) (hi : PDI X W tg iter fi) (ok : BlkOk X.N X.env.scope scope own) (hv : ∀ i ∈ t.slots, i ∈ own.map (·.2))
    (hg : ∀ (s : Shared) (H : Hp) (C : Addr) (cl : List (Str × Addr)) (fp : List Addr), PDG (X.blk s H scope (compEnvC scope cl C X.env) fp) tg t)
    (ht : ∀ (s : Shared) (H : Hp) (C : Addr) (cl : List (Str × Addr)) (fp : List Addr), Good (X.blk s H scope (compEnvC scope cl C X.env) fp) W0 k → PDTs (X.blk s H scope (compEnvC scope cl C X.env) fp) W0 ifs ft)
    (he : ∀ (s : Shared) (H : Hp) (C : Addr) (cl : List (Str × Addr)) (fp : List Addr), Good (X.blk s H scope (compEnvC scope cl C X.env) fp) W0 k → PD (X.blk s H scope (compEnvC scope cl C X.env) fp) W0 elt fe)
    (hy : X.N[i]? = some y := by rfl) (hyl : X.env.scope.names.lookup y = some .local := by rfl)
    (hs : ∀ x, foldedSetIterable iter X.env x = pure x := by intro _; rfl) : PSD X W (.Assign [.Name y py] (.ListComp elt [⟨tg, iter, ifs, 0⟩] scope pos) spos) (rSet i (rLc fi t (own.map (·.2)) ft fe)) :=
  ps_weak (ps_setLc g.calm g.nd hy hyl hsw hi ok hg (fun s H C cl fp => ht s H C cl fp (g.blk s H scope _ fp)) (fun s H C cl fp => he s H C cl fp (g.blk s H scope _ fp)) hs) fun D σ H ⟨γ, α, F, μ, δ, w, s, q⟩ => by
    refine tD_lc (ft := ft) (fe := fe) hv σ H _ ?_
    exact tD_st w s q fun d μ1 α1 F1 H1 v p1 e1 w1 s1 hv q1 => q1.nx_ w1 (s1.set i hv)
end

/-! ### contracts -/
abbrev Ct := List D → List Ob → R D
def spD (K : PySem.W.Frag) (n : Nat) (ct : Ct) : Sp := fun vs H Q E => vs.length = n ∧ ∃ γ α F μ ds, Wd K γ α F H μ ∧ IsL K α F vs ds ∧ Fin K γ α F (ct ds μ) (okD K Q) E
/-- a def of the text that keeps a contract, by its name -/
structure Cal (P : Program) (w : World) (K : PySem.W.Frag) (mg : Str → Option Value) (base : Heap) (k : Nat) (x : Str) (n : Nat) (ct : Ct) : Prop where
  ex : ∃ (f : Addr) (fd : FuncData) (ps : List Str), ps.length = n ∧ FnOk P w K mg base (L2.CX P w) k f fd ps (spD K n ct) ∧ mg x = some (.ref f) ∧ PySem.W.keepIn K (.ref f) = true ∧ Binds K fd ps []
def rCall (n : Nat) (ct : Ct) (fs : RA) : RE := fun δ μ => (fs δ μ).bind fun ds μ1 => if ds.length = n then ct ds μ1 else .bad
section
variable {X : Cx} {W : WX} {k j n : Nat} {x : Str} {ct : Ct}
theorem pd_call {e : Expr} {es : List Expr} {fs : RA} {p pos : Pos} (c : Cal X.prog X.w X.K X.mg X.base k x n ct) (g : Good X W j) (ha : PDA X W (e :: es) fs) (hk : k ≤ j := by decide) (hg : Gl X x := by rfl) (hdb : (x == ("__debug__" : Str)) = false := by decide)
    (he : starEach (e :: es) X.env = (false, eval e X.env) :: starEach es X.env := by rfl) (hpl : (backTo pos (starEach es X.env)).any (·.1) = false := by rfl) : PD X W (.Call (.Name x p) (e :: es) [] pos) (rCall n ct fs) := by
  obtain ⟨f, fd, ps, hn, F, hm, kp, hb⟩ := c.ex
  refine pe_weak (pe_callS F (g.hr.mono hk) hg hm kp hb (fun σ => passAt g.tk σ) ha hdb he hpl) fun σ H Q ⟨γ, α, F, μ, δ, w, s, q⟩ => ?_
  refine tDA_go w s q fun ds μ1 α1 F1 H1 vs p1 e1 w1 s1 hv q1 => ?_
  by_cases hl : ds.length = n
  · rw [if_pos hl] at q1
    exact ⟨by rw [hv.length]; exact hl, γ, α1, F1, μ1, ds, w1, hv, q1⟩
  · rw [if_neg hl] at q1; exact q1.elim
def noX (r : R D) : R D := match r with
  | .ok d μ => .ok d μ
  | _ => .bad
theorem pd_call0 {p pos : Pos} (c : Cal X.prog X.w X.K X.mg X.base k x 0 ct) (g : Good X W j) (hk : k ≤ j := by decide) (hg : Gl X x := by rfl) (hdb : (x == ("__debug__" : Str)) = false := by decide) : PD X W (.Call (.Name x p) [] [] pos) (fun _ μ => noX (ct [] μ)) := by
  obtain ⟨f, fd, ps, hn', F, hm, kp, hb⟩ := c.ex
  refine pe_weak (pe_call0 F (g.hr.mono hk) hg hm kp hb .nil passL hdb) fun σ H Q ⟨γ, α, F, μ, δ, w, s, q⟩ => ?_
  refine ⟨rfl, γ, α, F, μ, [], w, .nil, ?_⟩
  replace q : Fin X.K γ α F (noX (ct [] μ)) (okD X.K Q) (fun c dd H' => W c dd σ H') := q
  cases hc : ct [] μ with
  | ok d μ1 => rw [hc] at q; exact q
  | exc x μ1 => rw [hc] at q; exact q.elim
  | bad => rw [hc] at q; exact q
end

/-! ### a contract by its body -/
mutual
theorem sc_le {n m : Nat} (h : n ≤ m) : ∀ d : D, d.sc n = true → d.sc m = true
  | .tup xs, e => by rw [D.sc] at e ⊢; exact scL_le h xs e
  | .lst xs, e => by rw [D.sc] at e ⊢; exact scL_le h xs e
  | .frl xs, e => by rw [D.sc] at e ⊢; exact scL_le h xs e
  | .dct _ xs, e => by rw [D.sc] at e ⊢; exact scL_le h xs e
  | .ins _ _ xs, e => by rw [D.sc] at e ⊢; exact scL_le h xs e
  | .loc k, e => by
    rw [D.sc] at e ⊢
    have := of_decide_eq_true e
    exact decide_eq_true (by omega)
  | .non, _ => by simp [D.sc]
  | .bl _, _ => by simp [D.sc]
  | .int _, _ => by simp [D.sc]
  | .str _, _ => by simp [D.sc]
  | .vv _, _ => by simp [D.sc]
theorem scL_le {n m : Nat} (h : n ≤ m) : ∀ xs : List D, scL n xs = true → scL m xs = true
  | [], _ => by simp [scL]
  | x :: xs, e => by
    rw [scL, Bool.and_eq_true] at e ⊢
    exact ⟨sc_le h x e.1, scL_le h xs e.2⟩
end
theorem obsc_le {n m : Nat} (h : n ≤ m) (o : Ob) (e : o.sc n = true) : o.sc m = true := by
  cases o with
  | lst xs => exact scL_le h xs e
  | dct _ xs => exact scL_le h xs e
  | ins _ _ xs => exact scL_le h xs e
  | dead => rfl
/-- the store behind a def: as it stands, or without what was made on the way -/
def Keep (μ μ1 : List Ob) (ds : List D) (μe : List Ob) : Prop :=
  μe = μ1 ∨ ((∃ j, μe = μ1 ++ j) ∧ μ.length ≤ μ1.length ∧ scL μ1.length ds = true ∧ ∀ (k : Nat) o, μ1[k]? = some o → μ[k]? = some o ∨ o.sc μ1.length = true)
theorem Keep.pure {μ : List Ob} {d : D} {j : List Ob} (h : d.sc 0 = true) : Keep μ μ [d] (μ ++ j) :=
  .inr ⟨⟨j, rfl⟩, Nat.le_refl _, by rw [scL, sc_le (Nat.zero_le _) d h]; rfl, fun _ _ h => .inl h⟩
def Cov (μ : List Ob) (c : R D) (r : SO) : Prop := match c with
  | .bad => True
  | .ok d μ1 => match r with
    | .rt d' μe => d = d' ∧ Keep μ μ1 [d] μe
    | .nx _ μe => d = .non ∧ Keep μ μ1 [] μe
    | _ => False
  | .exc x μ1 => match r with
    | .exc x' _ μe => x = x' ∧ Keep μ μ1 x.xs μe
    | _ => False
section
variable {K : PySem.W.Frag} {γ : Hp} {α α' : List Addr} {F F' H H' : Hp} {μ μ1 μe : List Ob}
theorem Keep.go {ds : List D} (h : Keep μ μ1 ds μe) (w : Wd K γ α F H μ) (p : α <+: α') (w' : Wd K γ α' F' H' μe) : ∃ α'', α <+: α'' ∧ Wd K γ α'' F' H' μ1 ∧ ∀ vs, IsL K α' F' vs ds → IsL K α'' F' vs ds := by
  rcases h with h | ⟨⟨j, h⟩, hl, hs, ho⟩
  · subst h
    exact ⟨α', p, w', fun _ q => q⟩
  · subst h
    refine ⟨α'.take μ1.length, ?_, ?_, fun vs q => q.cut hs⟩
    · obtain ⟨t, rfl⟩ := p
      have hn : α.length ≤ μ1.length := by rw [w.len]; exact hl
      rw [List.take_append]
      rw [List.take_of_length_le hn]
      exact List.prefix_append _ _
    · have := w'.cut (n := μ1.length) fun k o hk ho' => by
        rw [List.getElem?_append_left hk] at ho'
        rcases ho k o ho' with q | q
        · obtain ⟨a, ha⟩ : ∃ a, α[k]? = some a := by
            have hlt := (List.getElem?_eq_some_iff.mp q).1
            rw [← w.len] at hlt
            exact ⟨α[k], List.getElem?_eq_getElem hlt⟩
          have := (w.obj k a o ha q).scoped
          exact obsc_le (by rw [w.len]; exact hl) o this
        · exact q
      rw [List.take_left' rfl] at this
      exact this
theorem fn_cal {P : Program} {w : World} {mg : Str → Option Value} {base : Heap} {x qual : Str} {st : Stmt} {f : Addr} {fd : FuncData} {N ps : List Str} {k : Nat} {ct : Ct} {fb : RS} (Fu : Fun K x qual st f fd) (S : FnScope N ps (defScope st)) (hnp : ps.length ≤ N.length := by decide)
    (body : ∀ (cdv : Value) (A : Around) (outer : List Env) (s : Shared) (H : Hp) (E : XK), Good (cxOf (L2.CX P w) P w K mg base N qual (defScope st) f cdv A outer s H E) (fun c d _ H' => E c d H') k → PSDs (cxOf (L2.CX P w) P w K mg base N qual (defScope st) f cdv A outer s H E) (fun c d _ H' => E c d H') (defBody st) fb)
    (cov : ∀ ds μ, ds.length = ps.length → Cov μ (ct ds μ) (fb (ds.map some ++ List.replicate (N.length - ps.length) none) μ)) : FnOk P w K mg base (L2.CX P w) (k + 1) f fd ps (spD K ps.length ct) := by
  refine Fu.okX S (fun vs H Q E h => h.1) fun cdv A outer s H vs Q E hr h => ?_
  refine ⟨_, body cdv A outer s H E ⟨hr, rfl, S.nd, takes_of rfl rfl rfl rfl, passes_of rfl⟩, ?_⟩
  obtain ⟨hl, γ, α, F, μ, ds, w0, hds, q⟩ := h
  have hdl : ds.length = ps.length := by rw [← hds.length]; exact hl
  have s0 : SlIs K α F (L2.start N vs) (ds.map some ++ List.replicate (N.length - ps.length) none) := by
    unfold L2.start
    rw [hl]
    refine ⟨by simp [hds.length], fun i d e => ?_⟩
    by_cases hi : i < ds.length
    · rw [List.getElem?_append_left (by rw [List.length_map]; exact hi)] at e
      rw [List.getElem?_map, List.getElem?_eq_getElem hi] at e
      have e' : ds[i] = d := by simpa using e
      obtain ⟨v, h1, h2⟩ := hds.get (i := i) (d := d) (by rw [List.getElem?_eq_getElem hi, e'])
      have hi2 : i < vs.length := by rw [hds.length]; exact hi
      exact ⟨v, by rw [List.getElem?_append_left (by rw [List.length_map]; exact hi2), List.getElem?_map, h1]; rfl, h2⟩
    · rw [List.getElem?_append_right (by rw [List.length_map]; omega), List.getElem?_replicate] at e
      split at e <;> cases e
  refine ⟨γ, α, F, μ, _, w0, s0, ?_⟩
  have cv := cov ds μ hdl
  cases hc : ct ds μ with
  | bad => rw [hc] at q; exact q.elim
  | ok d μ1 =>
    rw [hc] at q cv
    cases hb : fb (ds.map some ++ List.replicate (N.length - ps.length) none) μ with
    | rt d' μe =>
      rw [hb] at cv
      obtain ⟨rfl, kp⟩ := cv
      intro α' F' H' v p e w' hv
      obtain ⟨α'', p2, w2, k2⟩ := kp.go w0 p w'
      have := k2 [v] (.cons hv .nil)
      cases this with
      | cons hv2 _ => exact q α'' F' H' p2 e w2 v hv2
    | nx δ' μe =>
      rw [hb] at cv
      obtain ⟨rfl, kp⟩ := cv
      intro α' F' H' σ' p e w' s'
      obtain ⟨α'', p2, w2, k2⟩ := kp.go w0 p w'
      exact q α'' F' H' p2 e w2 .non .non
    | _ => rw [hb] at cv; exact cv.elim
  | exc x μ1 =>
    rw [hc] at q cv
    cases hb : fb (ds.map some ++ List.replicate (N.length - ps.length) none) μ with
    | exc x' δ' μe =>
      rw [hb] at cv
      obtain ⟨rfl, kp⟩ := cv
      intro α' F' H' σ' c dd p e w' s' hx
      obtain ⟨α'', p2, w2, k2⟩ := kp.go w0 p w'
      refine q α'' F' H' c dd p2 e w2 ?_
      obtain ⟨h1, h2 | ⟨d, fv, h3, h4, h5, h6⟩⟩ := hx
      · exact ⟨h1, .inl h2⟩
      · exact ⟨h1, .inr ⟨d, fv, h3, h4, h5, k2 _ h6⟩⟩
    | _ => rw [hb] at cv; exact cv.elim
end
end DL

/-! The data layer, h: built-ins by name. -/
namespace DL
open PySem L2

def Opn (K : PySem.W.Frag) (r : List V → Hp → VK → Prop) (g : List D → List Ob → R D) : Prop :=
  ∀ γ α F H μ vs ds Q E, Wd K γ α F H μ → IsL K α F vs ds → Fin K γ α F (g ds μ) (okD K Q) E → r vs H Q
def rCB (g : List D → List Ob → R D) (fs : RA) : RE := fun δ μ => (fs δ μ).bind g
section
variable {X : Cx} {W : WX} {e : Expr} {es : List Expr} {fs : RA} {pos p : Pos} {r : List V → Hp → VK → Prop} {g : List D → List Ob → R D} {x : Str} {id T : String}
theorem tD_cb {K : PySem.W.Frag} (h : Opn K r g) (σ : St) (H : Hp) (Q : VK) : tD K W (rCB g fs) σ H Q → tCB r (tDA K W fs) σ H Q := fun ⟨γ, α, F, μ, δ, w, s, q⟩ =>
  tDA_go w s q fun ds μ1 α1 F1 H1 vs p1 e1 w1 s1 hv q1 => h γ α1 F1 H1 μ1 vs ds Q _ w1 hv q1
theorem pd_callB (hc : CallR X (.builtin id) r) (h : Opn X.K r g) (hv : bootBuiltins x = some (.builtin id)) (hm : X.mg x = none) (ha : PDA X W (e :: es) fs) (hg : Gl X x := by rfl) (hn : x ≠ "__name__" := by decide) (hdb : (x == ("__debug__" : Str)) = false := by decide)
    (he : starEach (e :: es) X.env = (false, eval e X.env) :: starEach es X.env := by rfl) (hpl : (backTo pos (starEach es X.env)).any (·.1) = false := by rfl) : PD X W (.Call (.Name x p) (e :: es) [] pos) (rCB g fs) :=
  pe_weak (pe_callB hc hg hm hv ha hn hdb he hpl) (tD_cb h)
theorem pd_callT (hc : CallR X (.type T) r) (h : Opn X.K r g) (hv : bootBuiltins x = some (.type T)) (hm : X.mg x = none) (ha : PDA X W (e :: es) fs) (hg : Gl X x := by rfl) (hn : x ≠ "__name__" := by decide) (hdb : (x == ("__debug__" : Str)) = false := by decide)
    (he : starEach (e :: es) X.env = (false, eval e X.env) :: starEach es X.env := by rfl) (hpl : (backTo pos (starEach es X.env)).any (·.1) = false := by rfl) : PD X W (.Call (.Name x p) (e :: es) [] pos) (rCB g fs) :=
  pe_weak (pe_callTy hc hg hm hv ha hn hdb he hpl) (tD_cb h)
end
section
variable {K : PySem.W.Frag} {γ : Hp} {α : List Addr} {F H : Hp} {μ : List Ob} {Q : VK} {E : XK}
theorem IsL.one {vs : List V} {d : D} (h : IsL K α F vs [d]) : ∃ v, vs = [v] ∧ Is K α F v d := by
  cases h with
  | cons h t => cases t; exact ⟨_, rfl, h⟩
theorem IsL.two {vs : List V} {d e : D} (h : IsL K α F vs [d, e]) : ∃ v u, vs = [v, u] ∧ Is K α F v d ∧ Is K α F u e := by
  cases h with
  | cons h t =>
    obtain ⟨u, rfl, h2⟩ := t.one
    exact ⟨_, _, rfl, h, h2⟩
theorem fin_ok {d : D} {v : V} (w : Wd K γ α F H μ) (hv : Is K α F v d) (q : Fin K γ α F (.ok d μ) (okD K Q) E) : Q v H := q α F H (List.prefix_refl _) (Same.refl F) w v hv
/-- a thing is laid and never changed -/
theorem fin_lay {d : D} {p : Addr} {o : HO} {v : V} (w : Wd K γ α F H μ) (hp : H p = none) (hv : Is K α (upd F p o) v d) (q : Fin K γ α F (.ok d μ) (okD K Q) E) : Q v (upd H p o) :=
  q α _ _ (List.prefix_refl _) (same_new (w.sub.free hp)) (w.lay hp) v hv

/-! ### len -/
def lenD : List D → List Ob → R D := fun ds μ => match ds with
  | [d] => match d.view μ with
    | .str z => if z.length ≤ 16777216 then .ok (.int (z.length : Nat)) μ else .bad
    | .lst xs => .ok (.int (xs.length : Nat)) μ
    | .frl xs => .ok (.int (xs.length : Nat)) μ
    | .tup xs => .ok (.int (xs.length : Nat)) μ
    | .dct _ xs => .ok (.int (xs.length : Nat)) μ
    | _ => .bad
  | _ => .bad
def rLenA (K : PySem.W.Frag) : List V → Hp → VK → Prop := fun xs H Q => (∃ x n, xs = [x] ∧ LenV K x H n ∧ Q (.int n) H) ∨ ∃ a kvs, xs = [V.ref a] ∧ RdD H a kvs ∧ Q (.int kvs.length) H
theorem call_lenA {X : Cx} : CallR X (.builtin "len") (rLenA X.K) := CallR.or call_len call_lenK
theorem opn_len : Opn K (rLenA K) lenD := fun γ α F H μ vs ds Q E w hv q => by
  unfold lenD at q
  match ds, hv, q with
  | [], _, q => exact q.elim
  | _ :: _ :: _, _, q => exact q.elim
  | [d], hv, q =>
    obtain ⟨v, rfl, h⟩ := hv.one
    have vw := w.view h
    simp only at q
    cases hd : d.view μ with
    | str z =>
      rw [hd] at q vw
      have := Is.toStr (K := K) vw
      subst this
      simp only at q
      split at q
      · exact .inl ⟨_, _, rfl, ⟨by rw [sizeLine_eq]; assumption, rfl⟩, fin_ok w (.int _) q⟩
      · exact q.elim
    | lst xs =>
      rw [hd] at q vw
      obtain ⟨a, us, rfl, ha, l⟩ := vw
      exact .inl ⟨_, _, rfl, .inl ⟨us, .inl (.inl ha), rfl⟩, by rw [l.length]; exact fin_ok w (.int _) q⟩
    | frl xs =>
      rw [hd] at q vw
      obtain ⟨a, us, rfl, ha, l⟩ := vw
      exact .inl ⟨_, _, rfl, .inl ⟨us, ha, rfl⟩, by rw [l.length]; exact fin_ok w (.int _) q⟩
    | tup xs =>
      rw [hd] at q vw
      obtain ⟨a, us, rfl, ha, l⟩ := vw
      exact .inl ⟨_, _, rfl, .inr ⟨us, ha, rfl⟩, by rw [l.length]; exact fin_ok w (.int _) q⟩
    | dct ks xs =>
      rw [hd] at q vw
      obtain ⟨a, kvs, rfl, ha, _, l⟩ := vw
      have e := l.length
      rw [List.length_map] at e
      exact .inr ⟨a, kvs, rfl, ha, by rw [e]; exact fin_ok w (.int _) q⟩
    | _ => rw [hd] at q; exact q.elim

/-! ### isinstance -/
def D.tyS : D → Option String
  | .non => some "NoneType"
  | .bl _ => some "bool"
  | .int _ => some "int"
  | .str _ => some "str"
  | .tup _ => some "tuple"
  | .lst _ => some "list"
  | .dct _ _ => some "dict"
  | _ => none
/-- isinstance, by what a value's look says -/
def isiD (c : V) (q : D → Option Bool) : List D → List Ob → R D := fun ds μ => match ds with
  | [d, .vv u] => if u = c then (match q (d.view μ) with
    | some b => .ok (.bl b) μ
    | none => .bad) else .bad
  | _ => .bad
def IsiQ (K : PySem.W.Frag) (c : V) (q : D → Option Bool) : Prop := ∀ α F H v d b, Vw K α F H v d → q d = some b → ∃ t u, ClsV c u ∧ TyX K H v t ∧ PySem.W.kitOne K t u = some b
theorem opn_isi {c : V} {q : D → Option Bool} (hq : IsiQ K c q) : Opn K (rIsi K) (isiD c q) := fun γ α F H μ vs ds Q E w hv h => by
  unfold isiD at h
  split at h
  · rename_i d u
    obtain ⟨v, x, rfl, h1, h2⟩ := hv.two
    have e := Is.toVv h2
    subst e
    split at h
    · rename_i hu
      subst hu
      cases hd : q (d.view μ) with
      | none => rw [hd] at h; exact h.elim
      | some b =>
        rw [hd] at h
        obtain ⟨t, u, k1, k2, k3⟩ := hq α F H v _ b (w.view h1) hd
        exact ⟨v, _, t, u, b, rfl, k1, k2, k3, fin_ok w (.bl b) h⟩
    · exact h.elim
  · exact h.elim
theorem tyx_tup {a : Addr} {xs : List V} (h : SqT K H a xs) : TyX K H (.ref a) (.type "tuple") := by
  rcases h with (h | ⟨o, h⟩) | ⟨o, its, n, h1, h2, _⟩
  · exact .base (.tup h)
  · exact .fTuple h
  · exact .kTuple h1 h2
theorem tyx_of {v : V} {d : D} {T : String} (h : Vw K α F H v d) (e : d.tyS = some T) : TyX K H v (.type T) := by
  cases d with
  | non => cases e; cases Is.toNon (K := K) h; exact .base .non
  | bl b => cases e; cases Is.toBl (K := K) h; exact .base (.bl b)
  | int b => cases e; cases Is.toInt (K := K) h; exact .base (.int b)
  | str b => cases e; cases Is.toStr (K := K) h; exact .base (.str b)
  | tup b => cases e; obtain ⟨a, us, rfl, ha, l⟩ := h; exact tyx_tup ha
  | lst b => cases e; obtain ⟨a, us, rfl, ha, l⟩ := h; exact .base (.lst ha)
  | dct ks b =>
    cases e
    obtain ⟨a, us, rfl, ha, l⟩ := h
    rcases ha with ha | ⟨o, ha⟩
    · exact .base (.dK ha)
    · exact .fDict ha
  | _ => cases e
/-- against a built-in type -/
def isT (T : String) (d : D) : Option Bool := match d.tyS with
  | some S => kitB S T
  | none => none
theorem isiQ_ty {T : String} : IsiQ K (.ty T) (isT T) := fun α F H v d b h e => by
  unfold isT at e
  cases hs : d.tyS with
  | none => rw [hs] at e; cases e
  | some S =>
    rw [hs] at e
    exact ⟨_, _, .ty T, tyx_of h hs, kit_ty e⟩

/-! ### int, str -/
def intD : List D → List Ob → R D := fun ds μ => match ds with
  | [.int i] => .ok (.int i) μ
  | [.bl k] => .ok (.int (if k then 1 else 0)) μ
  | [.str a] => match PySem.intText? a with
    | some n => if a.length ≤ 640 then .ok (.int n) μ else .bad
    | none => .bad
  | _ => .bad
abbrev rIntA : List V → Hp → VK → Prop := fun xs H Q => ((∃ i, xs = [.int i] ∧ Q (.int i) H) ∨ ∃ k, xs = [.bl k] ∧ Q (.int (if k then 1 else 0)) H) ∨ (∃ a n, xs = [.str a] ∧ PySem.intText? a = some n ∧ a.length ≤ 640 ∧ Q (.int n) H)
theorem call_intA {X : Cx} : CallR X (.type "int") rIntA := CallR.or call_int1 call_int_str
theorem opn_int : Opn K rIntA intD := fun γ α F H μ vs ds Q E w hv q => by
  unfold intD at q
  split at q
  · rename_i i
    obtain ⟨v, rfl, h⟩ := hv.one
    cases h
    exact .inl (.inl ⟨_, rfl, fin_ok w (.int _) q⟩)
  · obtain ⟨v, rfl, h⟩ := hv.one
    cases h
    exact .inl (.inr ⟨_, rfl, fin_ok w (.int _) q⟩)
  · obtain ⟨v, rfl, h⟩ := hv.one
    cases h
    split at q
    · rename_i n hn
      split at q
      · rename_i hl
        exact .inr ⟨_, n, rfl, hn, hl, fin_ok w (.int _) q⟩
      · exact q.elim
    · exact q.elim
  · exact q.elim
def strD : List D → List Ob → R D := fun ds μ => match ds with
  | [.int i] => if i.natAbs.log2 < 1920 then .ok (.str (toString i)) μ else .bad
  | [.str a] => .ok (.str a) μ
  | _ => .bad
abbrev rStrA : List V → Hp → VK → Prop := fun xs H Q => (∃ i : Int, xs = [.int i] ∧ i.natAbs.log2 < 1920 ∧ Q (.str (toString i)) H) ∨ ∃ a, xs = [.str a] ∧ Q (.str a) H
theorem call_strA {X : Cx} : CallR X (.type "str") rStrA := CallR.or call_str_int SkE.call_str_str
theorem opn_str : Opn K rStrA strD := fun γ α F H μ vs ds Q E w hv q => by
  unfold strD at q
  split at q
  · obtain ⟨v, rfl, h⟩ := hv.one
    cases h
    split at q
    · exact .inl ⟨_, rfl, by assumption, fin_ok w (.str _) q⟩
    · exact q.elim
  · obtain ⟨v, rfl, h⟩ := hv.one
    cases h
    exact .inr ⟨_, rfl, fin_ok w (.str _) q⟩
  · exact q.elim

/-! ### list, tuple -/
/-- what list(..) and tuple(..) take out -/
def elsD : D → Option (List D)
  | .lst xs => some xs
  | .frl xs => some xs
  | .tup xs => some xs
  | .dct ks _ => some (ks.map Key.d)
  | _ => none
def listD (m : Bool) : List D → List Ob → R D := fun ds μ => match ds with
  | [d] => match elsD (d.view μ) with
    | some xs => if m then .ok (.loc μ.length) (μ ++ [.lst xs]) else .ok (.lst xs) μ
    | none => .bad
  | _ => .bad
def rListA (K : PySem.W.Frag) : List V → Hp → VK → Prop := fun xs H Q => (∃ p ys, xs = [.ref p] ∧ (SqL K H p ys ∨ SqT K H p ys) ∧ ∀ l, H l = none → Q (.ref l) (upd H l (.lst ys))) ∨
  (∃ (a : Addr) (kvs : List (Key × V)), xs = [.ref a] ∧ RdD H a kvs ∧ ∀ p, H p = none → Q (.ref p) (upd H p (.lst (kvs.map fun kv => kV kv.1))))
theorem call_listA {X : Cx} (hc : X.calm = true) : CallR X (.type "list") (rListA X.K) := CallR.or call_list_of (call_listK hc)
theorem keys_is : ∀ (ks : List Key), IsL K α F (ks.map kV) (ks.map Key.d)
  | [] => .nil
  | k :: ks => .cons key_is (keys_is ks)
theorem els_of {v : V} {d : D} {xs : List D} (h : Vw K α F H v d) (e : elsD d = some xs) : (∃ p ys, v = .ref p ∧ (SqL K H p ys ∨ SqT K H p ys) ∧ IsL K α F ys xs) ∨ (∃ a kvs, v = .ref a ∧ RdD H a kvs ∧ IsL K α F (kvs.map fun kv => kV kv.1) xs) := by
  cases d with
  | lst ys => cases e; obtain ⟨a, us, rfl, ha, l⟩ := h; exact .inl ⟨a, us, rfl, .inl (.inl (.inl ha)), l⟩
  | frl ys => cases e; obtain ⟨a, us, rfl, ha, l⟩ := h; exact .inl ⟨a, us, rfl, .inl ha, l⟩
  | tup ys => cases e; obtain ⟨a, us, rfl, ha, l⟩ := h; exact .inl ⟨a, us, rfl, .inr ha, l⟩
  | dct ks ys =>
    cases e
    obtain ⟨a, kvs, rfl, ha, rfl, l⟩ := h
    refine .inr ⟨a, kvs, rfl, ha, ?_⟩
    have := keys_is (K := K) (α := α) (F := F) (kvs.map (·.1))
    rw [List.map_map] at this
    exact this
  | _ => cases e
theorem fin_new {xs : List D} {ys : List V} {m : Bool} {l : Addr} (w : Wd K γ α F H μ) (hl : H l = none) (h : IsL K α F ys xs) (q : Fin K γ α F (if m then .ok (.loc μ.length) (μ ++ [.lst xs]) else .ok (.lst xs) μ) (okD K Q) E) : Q (.ref l) (upd H l (.lst ys)) := by
  cases m with
  | true => exact q (α ++ [l]) F _ (List.prefix_append _ _) (Same.refl F) (w.newLst hl h) _ (.loc (w.newAt l))
  | false => exact fin_lay w hl (.lst upd_same (h.mono (List.prefix_refl _) (same_new (w.sub.free hl)))) q
theorem opn_list (m : Bool) : Opn K (rListA K) (listD m) := fun γ α F H μ vs ds Q E w hv q => by
  unfold listD at q
  match ds, hv, q with
  | [], _, q => exact q.elim
  | _ :: _ :: _, _, q => exact q.elim
  | [d], hv, q =>
    obtain ⟨v, rfl, h⟩ := hv.one
    simp only at q
    cases he : elsD (d.view μ) with
    | none => rw [he] at q; exact q.elim
    | some xs =>
      rw [he] at q
      simp only at q
      rcases els_of (w.view h) he with ⟨p, ys, rfl, hs, l⟩ | ⟨a, kvs, rfl, hs, l⟩
      · exact .inl ⟨p, ys, rfl, hs, fun l' hl => fin_new w hl l q⟩
      · exact .inr ⟨a, kvs, rfl, hs, fun l' hl => fin_new w hl l q⟩
def tupD : List D → List Ob → R D := fun ds μ => match ds with
  | [d] => match d.view μ with
    | .lst xs => .ok (.tup xs) μ
    | .tup xs => .ok (.tup xs) μ
    | _ => .bad
  | _ => .bad
def rTupA (K : PySem.W.Frag) : List V → Hp → VK → Prop := (fun xs H Q => ∃ p ys, xs = [.ref p] ∧ ((SqL K H p ys ∧ ∀ l, H l = none → Q (.ref l) (upd H l (.tup ys))) ∨ (SqT K H p ys ∧ Q (.ref p) H)))
theorem opn_tup : Opn K (rTupA K) tupD := fun γ α F H μ vs ds Q E w hv q => by
  unfold tupD at q
  match ds, hv, q with
  | [], _, q => exact q.elim
  | _ :: _ :: _, _, q => exact q.elim
  | [d], hv, q =>
    obtain ⟨v, rfl, h⟩ := hv.one
    have vw := w.view h
    simp only at q
    cases hd : d.view μ with
    | lst xs =>
      rw [hd] at q vw
      obtain ⟨a, us, rfl, ha, l⟩ := vw
      exact ⟨a, us, rfl, .inl ⟨.inl (.inl ha), fun p hp => fin_lay w hp (.tup (.inl (.inl upd_same)) (l.mono (List.prefix_refl _) (same_new (w.sub.free hp)))) q⟩⟩
    | tup xs =>
      rw [hd] at q vw
      have e := view_tup hd
      subst e
      obtain ⟨a, us, rfl, ha, l⟩ := vw
      exact ⟨a, us, rfl, .inr ⟨ha, fin_ok w h q⟩⟩
    | _ => rw [hd] at q; exact q.elim

/-! ### max, min, all, any -/
def max2D : List D → List Ob → R D := fun ds μ => match ds with
  | [.int i, .int j] => .ok (.int (if j > i then j else i)) μ
  | _ => .bad
theorem opn_max2 : Opn K (fun xs H Q => ∃ i j, xs = [.int i, .int j] ∧ Q (.int (if j > i then j else i)) H) max2D := fun γ α F H μ vs ds Q E w hv q => by
  unfold max2D at q
  split at q
  · obtain ⟨v, u, rfl, h1, h2⟩ := hv.two
    cases h1; cases h2
    exact ⟨_, _, rfl, fin_ok w (.int _) q⟩
  · exact q.elim
def blsD : List D → Option (List Bool)
  | [] => some []
  | .bl b :: r => (blsD r).map (b :: ·)
  | _ => none
theorem bls_is : ∀ {xs : List D} {bs : List Bool} {vs : List V}, blsD xs = some bs → IsL K α F vs xs → vs = bs.map V.bl
  | [], bs, vs, e, h => by cases e; cases h; rfl
  | d :: r, bs, vs, e, h => by
    cases d with
    | bl b =>
      rw [blsD] at e
      cases hr : blsD r with
      | none => rw [hr] at e; cases e
      | some cs =>
        rw [hr] at e
        cases e
        cases h with
        | cons h t => cases h; rw [bls_is hr t]; rfl
    | _ => cases e
def allD (any : Bool) : List D → List Ob → R D := fun ds μ => match ds with
  | [d] => match elsD (d.view μ), d.view μ with
    | some xs, .lst _ => match blsD xs with
      | some bs => .ok (.bl (if any then bs.any id else bs.all id)) μ
      | none => .bad
    | _, _ => .bad
  | _ => .bad
theorem opn_all0 {any : Bool} {ds : List D} {vs : List V} (w : Wd K γ α F H μ) (hv : IsL K α F vs ds) (q : Fin K γ α F (allD any ds μ) (okD K Q) E) :
    ∃ (a : Addr) (bs : List Bool), vs = [V.ref a] ∧ SqL K H a (bs.map V.bl) ∧ Q (.bl (if any then bs.any id else bs.all id)) H := by
  unfold allD at q
  match ds, hv, q with
  | [], _, q => exact q.elim
  | _ :: _ :: _, _, q => exact q.elim
  | [d], hv, q =>
    obtain ⟨v, rfl, h⟩ := hv.one
    have vw := w.view h
    simp only at q
    cases hd : d.view μ with
    | lst xs =>
      rw [hd] at q vw
      obtain ⟨a, us, rfl, ha, l⟩ := vw
      simp only [elsD] at q
      cases hb : blsD xs with
      | none => rw [hb] at q; exact q.elim
      | some bs =>
        rw [hb] at q
        have := bls_is hb l
        subst this
        exact ⟨a, bs, rfl, .inl (.inl ha), fin_ok w (.bl _) q⟩
    | _ => rw [hd] at q; simp only [elsD] at q; exact q.elim
theorem opn_all : Opn K (rAll K) (allD false) := fun γ α F H μ vs ds Q E w hv q => opn_all0 w hv q
theorem opn_any : Opn K (rAny K) (allD true) := fun γ α F H μ vs ds Q E w hv q => opn_all0 w hv q
end
end DL

/-! The data layer, i: stores, methods of lists and texts, dicts, own objects. -/
namespace DL
open PySem L2

/-! ### a store into a thing -/
def hasK (ks : List Key) (k : Key) : Bool := ks.any fun j => decide (j = k)
def putKs (ks : List Key) (k : Key) : List Key := if hasK ks k then ks else ks ++ [k]
def putXs (ks : List Key) (xs : List D) (k : Key) (d : D) : List D := if hasK ks k then List.zipWith (fun k' x => if k' = k then d else x) ks xs else xs ++ [d]
def storeD (o i d : D) (μ : List Ob) : R Unit := match o with
  | .loc k => match μ[k]? with
    | some (.lst xs) => match i with
      | .int z => match ixN xs.length z with
        | some j => .ok () (μ.set k (.lst (xs.set j d)))
        | none => .bad
      | _ => .bad
    | some (.dct ks xs) => match i.key with
      | some key => if ks.length < 16777216 then .ok () (μ.set k (.dct (putKs ks key) (putXs ks xs key d))) else .bad
      | none => .bad
    | _ => .bad
  | _ => .bad
section
variable {K : PySem.W.Frag} {γ : Hp} {α : List Addr} {F H : Hp} {μ : List Ob} {σ : St} {δ : Sl} {W : WX} {Q : VK} {E : XK}
theorem any_con {kvs : List (Key × V)} {k : Key} : (kvs.any fun kv => decide (kv.1 = k)) = hasK (kvs.map (·.1)) k := by
  unfold hasK
  rw [List.any_map]
  rfl
theorem putK_keys {kvs : List (Key × V)} {k : Key} {v : V} : (putK kvs k v).map (·.1) = putKs (kvs.map (·.1)) k := by
  unfold putK putKs
  rw [any_con]
  split
  · rw [List.map_map]
    apply List.map_congr_left
    intro a _
    show (if a.1 = k then (a.1, v) else a).1 = a.1
    split <;> rfl
  · rw [List.map_append]; rfl
theorem put_zip {k : Key} {v : V} {d : D} (h : Is K α F v d) : ∀ {kvs : List (Key × V)} {xs : List D}, IsL K α F (kvs.map (·.2)) xs →
    IsL K α F ((kvs.map fun kv => if kv.1 = k then (kv.1, v) else kv).map (·.2)) (List.zipWith (fun k' x => if k' = k then d else x) (kvs.map (·.1)) xs)
  | [], _, .nil => .nil
  | (k', u) :: r, _ :: xs, .cons hu l => by
    refine .cons ?_ (put_zip h l)
    show Is K α F (if k' = k then (k', v) else (k', u)).2 (if k' = k then d else _)
    split
    · exact h
    · exact hu
theorem putK_vals {kvs : List (Key × V)} {xs : List D} {k : Key} {v : V} {d : D} (l : IsL K α F (kvs.map (·.2)) xs) (h : Is K α F v d) : IsL K α F ((putK kvs k v).map (·.2)) (putXs (kvs.map (·.1)) xs k d) := by
  unfold putK putXs
  rw [any_con]
  split
  · exact put_zip h l
  · rw [List.map_append]
    exact l.append (.cons h .nil)
def rSetA : TSet := fun o i v H Q => rSetL o i v H Q ∨ rSetD o i v H Q
theorem set_A {X : Cx} (hu : X.A.units + 1 < cLine) : PSet X rSetA := by
  intro pins s σ H o i v ov iv u Q I ro ri rv h
  rcases h with h | h
  · exact set_list pins s σ H o i v ov iv u Q I ro ri rv h
  · exact set_dict hu pins s σ H o i v ov iv u Q I ro ri rv h
theorem store_go {o i d : D} {x y z : V} {Q : Hp → Prop} {g : Unit → List Ob → SO} {D' : Ends} (w : Wd K γ α F H μ) (ho : Is K α F x o) (hi : Is K α F y i) (hd : Is K α F z d) (q : FinS K γ α F ((storeD o i d μ).st δ g) D' W)
    (k : ∀ μ1 H1, Wd K γ α F H1 μ1 → FinS K γ α F (g () μ1) D' W → Q H1) : rSetA x y z H Q := by
  unfold storeD at q
  cases o with
  | loc n =>
    cases ho with
    | loc ha =>
      rename_i a
      simp only at q
      cases hm : μ[n]? with
      | none => rw [hm] at q; exact q.elim
      | some ob =>
        rw [hm] at q
        have hob := w.obj n a ob ha hm
        cases ob with
        | lst xs =>
          cases i with
          | int j =>
            cases hi
            simp only at q
            obtain ⟨vs, h1, h2⟩ := hob
            cases hx : ixN xs.length j with
            | none => rw [hx] at q; exact q.elim
            | some jj =>
              rw [hx] at q
              exact .inl ⟨a, vs, j, jj, rfl, rfl, h1, by rw [h2.length]; exact hx, k _ _ (w.put (ob' := .lst (xs.set jj d)) ha hm (by intro z; cases z) ⟨_, upd_same, h2.set hd jj⟩) q⟩
          | _ => exact q.elim
        | dct ks xs =>
          simp only at q
          obtain ⟨kvs, h1, h2, h3⟩ := hob
          cases hk : i.key with
          | none => rw [hk] at q; exact q.elim
          | some key =>
            rw [hk] at q
            simp only at q
            split at q
            · rename_i hl
              have e := key_kV hi hk
              subst e
              subst h2
              rw [List.length_map] at hl
              exact .inr ⟨a, _, rfl, DPut.k h1 (by rw [sizeLine_eq]; exact hl), k _ _ (w.put (ob' := .dct (putKs _ key) (putXs _ xs key d)) ha hm (by intro z; cases z) ⟨_, upd_same, putK_keys, putK_vals h3 hd⟩) q⟩
            · exact q.elim
        | _ => exact q.elim
  | _ => exact q.elim

/-! ### targets that do something -/
def tGD (K : PySem.W.Frag) (W : WX) (g : D → RS) : TG := fun v σ H Q => ∃ γ α F μ δ d, Wd K γ α F H μ ∧ SlIs K α F σ δ ∧ Is K α F v d ∧ FinS K γ α F (g d δ μ) ⟨Q, fun _ _ => False, fun _ _ => False, fun _ _ => False⟩ W
def tGDs (K : PySem.W.Frag) (W : WX) (g : List D → RS) : TGs := fun vs σ H Q => ∃ γ α F μ δ ds, Wd K γ α F H μ ∧ SlIs K α F σ δ ∧ IsL K α F vs ds ∧ FinS K γ α F (g ds δ μ) ⟨Q, fun _ _ => False, fun _ _ => False, fun _ _ => False⟩ W
abbrev PGD (X : Cx) (W : WX) (tg : Expr) (g : D → RS) : Prop := PG X tg (tGD X.K W g)
abbrev PGDs (X : Cx) (W : WX) (tg : List Expr) (g : List D → RS) : Prop := PGs X tg (tGDs X.K W g)
end
section
variable {X : Cx} {W : WX} {pos p p' : Pos} {o i e : Expr} {es : List Expr} {fo fi f : RE} {g : D → RS} {gs : List D → RS} {fs : RA}
def gNm (i : Nat) : D → RS := fun d δ μ => .nx (δ.set i (some d)) μ
theorem pgd_nm (i : Nat) {x : Str} (hN : X.N.Nodup) (hi : X.N[i]? = some x := by rfl) (hx : Loc X.env.scope x := by first | exact Or.inl rfl | exact Or.inr rfl) (hf : X.fn x = true ∨ X.env.scope.names.lookup x = some .local := by first | exact .inl rfl | exact .inr rfl | assumption) : PGD X W (.Name x pos) (gNm i) :=
  pg_weak (pg_name hN hi hx hf) fun v σ H Q ⟨γ, α, F, μ, δ, d, w, s, hv, q⟩ => q.nx_ w (s.set i hv)
def gSt (fo fi : RE) : D → RS := fun d δ μ => (fo δ μ).st δ fun o μ1 => (fi δ μ1).st δ fun i μ2 => (storeD o i d μ2).st δ fun _ μ3 => .nx δ μ3
theorem pgd_sub (hu : X.A.units + 65 < cLine) (ho : PD X W o fo) (hi : PD X W i fi)
    (ha : ∀ v, assign (.Subscript o i pos) X.env v = (do
      let ov ← holding [v] (eval o X.env)
      let iv ← holding [v, ov] (eval i X.env)
      standAt pos
      holding [v, ov, iv] (setItem ov iv v)
      release [v, ov, iv] []) := by intro _; rfl) : PGD X W (.Subscript o i pos) (gSt fo fi) :=
  pg_weak (pg_sub ho hi (set_A (by omega)) ha) fun v σ H Q ⟨γ, α, F, μ, δ, d, w, s, hv, q⟩ => by
    refine tD_st w s q fun ob μ1 α1 F1 H1 x p1 e1 w1 s1 ho q1 => tD_st w1 s1 q1 fun ix μ2 α2 F2 H2 y p2 e2 w2 s2 hi q2 => ?_
    exact store_go w2 (ho.mono p2 e2) hi (hv.mono (p1.trans p2) (e1.trans e2)) q2 fun μ3 H3 w3 q3 => q3.nx_ w3 s2
def gNil : List D → RS := fun ds δ μ => match ds with
  | [] => .nx δ μ
  | _ => .bad
def gCons (g : D → RS) (gs : List D → RS) : List D → RS := fun ds δ μ => match ds with
  | d :: r => rSeq (g d) (gs r) δ μ
  | [] => .bad
theorem pgds_nil : PGDs X W [] gNil := pgs_weak pgs_nil fun v σ H Q ⟨γ, α, F, μ, δ, ds, w, s, hv, q⟩ => by
  cases hv with
  | nil => exact ⟨rfl, q.nx_ w s⟩
  | cons _ _ => exact q.elim
theorem pgds_cons (h1 : PGD X W e g) (h2 : PGDs X W es gs) (hs : (assignEach (e :: es) X.env).map (·.2) = assign e X.env :: (assignEach es X.env).map (·.2) := by rfl) : PGDs X W (e :: es) (gCons g gs) :=
  pgs_weak (pgs_cons h1 h2 hs) fun v σ H Q ⟨γ, α, F, μ, δ, ds, w, s, hv, q⟩ => by
    cases hv with
    | nil => exact q.elim
    | cons hv l =>
      refine ⟨_, _, rfl, γ, α, F, μ, δ, _, w, s, hv, ?_⟩
      unfold gCons rSeq at q
      simp only at q
      rename_i dd _ _
      cases hg : g dd δ μ with
      | nx δ1 μ1 =>
        rw [hg] at q
        exact fun α' F' H' σ' p e w' s' => ⟨γ, α', F', μ1, δ1, _, w', s', l.mono p e, q.up p e⟩
      | exc x δ1 μ1 => rw [hg] at q; exact q
      | bad => rw [hg] at q; exact q
      | rt d μ1 => rw [hg] at q; exact fun α' F' H' v p e w' hv => q α' F' H' v p e w' hv
      | bk δ1 μ1 => rw [hg] at q; exact fun α' F' H' v p e w' hv => q α' F' H' v p e w' hv
      | ct δ1 μ1 => rw [hg] at q; exact fun α' F' H' v p e w' hv => q α' F' H' v p e w' hv
def gTp (n : Nat) (gs : List D → RS) : D → RS := fun d δ μ => match d with
  | .tup ds => if ds.length = n then gs ds δ μ else .bad
  | _ => .bad
theorem pgd_tup {n k : Nat} (hc : X.calm = true) (h : PGDs X W es gs) (hn : (assignEach es X.env).length = n := by rfl) (hst : (assignEach es X.env).findIdx? (·.1) = none := by rfl) : PGD X W (.Tuple es k pos) (gTp n gs) :=
  pg_weak (pg_tup hc h hn hst) fun v σ H Q ⟨γ, α, F, μ, δ, d, w, s, hv, q⟩ => by
    unfold gTp at q
    cases hv with
    | tup ha l =>
      simp only at q
      split at q
      · rename_i hl
        exact ⟨_, _, rfl, sqt_mono w.sub ha, by rw [l.length]; exact hl, γ, α, F, μ, δ, _, w, s, l, q⟩
      · exact q.elim
    | _ => exact q.elim
def rAsgD (g : D → RS) (f : RE) : RS := fun δ μ => (f δ μ).st δ fun d μ1 => match g d δ μ1 with
  | .nx δ1 μ2 => .nx δ1 μ2
  | .exc x δ1 μ2 => .exc x δ1 μ2
  | _ => .bad
theorem psd_asgD {tg : Expr} (he : PD X W e f) (hg : PGD X W tg g) (hs : swapsWithSole [tg] e pos.line X.env = pure false := by rfl) (hw : swappedStores [tg] e X.env = pure none := by rfl)
    (h1 : (assignEach [tg] X.env).map (·.2) = [assign tg X.env] := by rfl) : PSD X W (.Assign [tg] e pos) (rAsgD g f) :=
  ps_weak (ps_asg he hg hs hw h1) fun D' σ H ⟨γ, α, F, μ, δ, w, s, q⟩ => tD_st w s q fun d μ1 α1 F1 H1 v p1 e1 w1 s1 hv q1 => by
    refine ⟨γ, α1, F1, μ1, δ, d, w1, s1, hv, ?_⟩
    cases hg : g d δ μ1 with
    | nx δ1 μ2 => rw [hg] at q1; exact q1
    | exc x δ1 μ2 => rw [hg] at q1; exact q1
    | _ => rw [hg] at q1; exact q1.elim
end

/-! ### methods of built-in things -/
def Mtn (K : PySem.W.Frag) (T : String) (r : V → List V → Hp → VK → Prop) (c : D → Bool) (m : D → List D → List Ob → R D) : Prop :=
  (∀ α F H v d, Vw K α F H v d → c d = true → tyV K T v H) ∧ ∀ γ α F H μ v d vs ds Q E, Wd K γ α F H μ → Is K α F v d → IsL K α F vs ds → Fin K γ α F (m d ds μ) (okD K Q) E → r v vs H Q
def rMt (c : D → Bool) (m : D → List D → List Ob → R D) (fo : RE) (fs : RA) : RE := fun δ μ => (fo δ μ).bind fun d μ1 => if c (d.view μ1) then (fs δ μ1).bind fun ds μ2 => m d ds μ2 else .bad
section
variable {X : Cx} {W : WX} {o e : Expr} {es : List Expr} {fo : RE} {fs : RA} {apos cpos : Pos} {T : String} {name : Str} {id : String} {r : V → List V → Hp → VK → Prop} {c : D → Bool} {m : D → List D → List Ob → R D}
theorem pd_mt (pa : PlainAttrs T) (slot : Slot T name id) (hty : typeOf (.builtin id) = pure (.type "method_descriptor")) (hm : MtR X id r) (h : Mtn X.K T r c m) (ho : PD X W o fo) (ha : PDA X W (e :: es) fs)
    (hbase : attributeBase o name X.env (eval o X.env) = eval o X.env := by rfl)
    (hfew : ((backTo cpos (starEach (e :: es) X.env)).all (fun x => !x.1) && (backToKw cpos (keywordEach [] X.env)).all (fun x => x.1.isSome)
      && decide ((e :: es).length + ([] : List Keyword).length + (if ([] : List Keyword).isEmpty then 0 else 1) < 30)) = true := by rfl)
    (hline : (apos.endLine == cpos.line) = true := by rfl) (hs : starEach (e :: es) X.env = (false, eval e X.env) :: starEach es X.env := by rfl) (hplain : (backTo cpos (starEach es X.env)).any (·.1) = false := by rfl) :
    PD X W (.Call (.Attribute o name apos) (e :: es) [] cpos) (rMt c m fo fs) :=
  pe_weak (pe_bm pa slot hty hm ho ha hbase hfew hline hs hplain) fun σ H Q ⟨γ, α, F, μ, δ, w, s, q⟩ => tD_go w s q fun d μ1 α1 F1 H1 v p1 e1 w1 s1 hv q1 => by
    split at q1
    · rename_i hc
      refine ⟨h.1 _ _ _ _ _ (w1.view hv) hc, ?_⟩
      exact tDA_go w1 s1 q1 fun ds μ2 α2 F2 H2 vs p2 e2 w2 s2 hvs q2 => h.2 γ α2 F2 H2 μ2 v d vs ds Q _ w2 (hv.mono p2 e2) hvs q2
    · exact q1.elim
end
section
variable {K : PySem.W.Frag} {γ : Hp} {α : List Addr} {F H : Hp} {μ : List Ob} {σ : St} {δ : Sl} {W : WX} {Q : VK} {E : XK}
def isLst : D → Bool
  | .lst _ => true
  | _ => false
def isStr : D → Bool
  | .str _ => true
  | _ => false
theorem ty_lst {v : V} {d : D} (h : Vw K α F H v d) (c : isLst d = true) : tyV K "list" v H := by
  cases d with
  | lst xs => obtain ⟨a, us, rfl, ha, l⟩ := h; exact .inl ⟨rfl, us, .inl (.inl ha)⟩
  | _ => cases c
theorem ty_str {v : V} {d : D} (h : Vw K α F H v d) (c : isStr d = true) : tyV K "str" v H := by
  cases d with
  | str xs => cases Is.toStr (K := K) h; exact rfl
  | _ => cases c
/-- x.append(d), x.extend(ds) -/
def apD : D → List D → List Ob → R D := fun o ds μ => match o, ds with
  | .loc k, [d] => match μ[k]? with
    | some (.lst xs) => if xs.length < 16777216 then .ok .non (μ.set k (.lst (xs ++ [d]))) else .bad
    | _ => .bad
  | _, _ => .bad
theorem mtn_append : Mtn K "list" rAppend isLst apD := ⟨fun α F H v d => ty_lst, fun γ α F H μ v d vs ds Q E w hv hds q => by
  unfold apD at q
  split at q
  · rename_i k d
    cases hv with
    | loc ha =>
      rename_i a
      obtain ⟨u, rfl, hu⟩ := hds.one
      cases hm : μ[k]? with
      | none => rw [hm] at q; exact q.elim
      | some ob =>
        rw [hm] at q
        have hob := w.obj k a ob ha hm
        cases ob with
        | lst xs =>
          simp only at q
          obtain ⟨us, h1, h2⟩ := hob
          split at q
          · rename_i hl
            exact ⟨a, us, u, rfl, rfl, h1, by rw [h2.length, sizeLine_eq]; exact hl, fin_ok (w.put (ob' := .lst (xs ++ [d])) ha hm (by intro z; cases z) ⟨_, upd_same, h2.append (.cons hu .nil)⟩) .non q⟩
          · exact q.elim
        | _ => exact q.elim
  · exact q.elim⟩
def exD : D → List D → List Ob → R D := fun o ds μ => match o, ds with
  | .loc k, [d] => match μ[k]?, d.view μ with
    | some (.lst xs), .lst ys => if xs.length + ys.length ≤ 16777216 then .ok .non (μ.set k (.lst (xs ++ ys))) else .bad
    | _, _ => .bad
  | _, _ => .bad
theorem mtn_extend : Mtn K "list" rExtend isLst exD := ⟨fun α F H v d => ty_lst, fun γ α F H μ v d vs ds Q E w hv hds q => by
  unfold exD at q
  split at q
  · rename_i k d
    cases hv with
    | loc ha =>
      rename_i a
      obtain ⟨u, rfl, hu⟩ := hds.one
      cases hm : μ[k]? with
      | none => rw [hm] at q; exact q.elim
      | some ob =>
        rw [hm] at q
        have hob := w.obj k a ob ha hm
        cases ob with
        | lst xs =>
          have vw := w.view hu
          cases hd : d.view μ with
          | lst ys =>
            rw [hd] at q vw
            simp only at q
            obtain ⟨us, h1, h2⟩ := hob
            obtain ⟨b, zs, rfl, hb, l⟩ := vw
            split at q
            · rename_i hl
              exact ⟨a, b, us, zs, rfl, rfl, h1, hb, by rw [h2.length, l.length, sizeLine_eq]; exact hl, fin_ok (w.put (ob' := .lst (xs ++ ys)) ha hm (by intro z; cases z) ⟨_, upd_same, h2.append l⟩) .non q⟩
            · exact q.elim
          | _ => rw [hd] at q; exact q.elim
        | _ => exact q.elim
  · exact q.elim⟩
def strsD : List D → Option (List Str)
  | [] => some []
  | .str b :: r => (strsD r).map (b :: ·)
  | _ => none
theorem strs_is : ∀ {xs : List D} {bs : List Str} {vs : List V}, strsD xs = some bs → IsL K α F vs xs → vs = bs.map V.str
  | [], bs, vs, e, h => by cases e; cases h; rfl
  | d :: r, bs, vs, e, h => by
    cases d with
    | str b =>
      rw [strsD] at e
      cases hr : strsD r with
      | none => rw [hr] at e; cases e
      | some cs =>
        rw [hr] at e
        cases e
        cases h with
        | cons h t => cases h; rw [strs_is hr t]; rfl
    | _ => cases e
theorem is_strs : ∀ ys : List Str, IsL K α F (ys.map V.str) (ys.map D.str)
  | [] => .nil
  | y :: ys => .cons (.str y) (is_strs ys)
/-- a.join(xs), a.split(b) -/
def joinD : D → List D → List Ob → R D := fun o ds μ => match o, ds with
  | .str a, [d] => match d.view μ with
    | .lst xs => match strsD xs with
      | some ys => if (ys.map (·.length)).sum + ys.length * a.length ≤ 16777216 then .ok (.str (Txt.join a ys)) μ else .bad
      | none => .bad
    | _ => .bad
  | _, _ => .bad
def rJoin (K : PySem.W.Frag) : V → List V → Hp → VK → Prop := fun x xs H Q => ∃ a p, ∃ ys : List Str, x = .str a ∧ xs = [.ref p] ∧ (SqL K H p (ys.map V.str) ∨ SqT K H p (ys.map V.str)) ∧ (ys.map (·.length)).sum + ys.length * a.length ≤ 16777216 ∧ Q (.str (Txt.join a ys)) H
theorem mtn_join : Mtn K "str" (rJoin K) isStr joinD := ⟨fun α F H v d => ty_str, fun γ α F H μ v d vs ds Q E w hv hds q => by
  unfold joinD at q
  split at q
  · rename_i a d
    cases hv
    obtain ⟨u, rfl, hu⟩ := hds.one
    have vw := w.view hu
    cases hd : d.view μ with
    | lst xs =>
      rw [hd] at q vw
      simp only at q
      obtain ⟨b, zs, rfl, hb, l⟩ := vw
      cases hs : strsD xs with
      | none => rw [hs] at q; exact q.elim
      | some ys =>
        rw [hs] at q
        simp only at q
        have e := strs_is hs l
        subst e
        split at q
        · exact ⟨a, b, ys, rfl, rfl, .inl (.inl (.inl hb)), by assumption, fin_ok w (.str _) q⟩
        · exact q.elim
    | _ => rw [hd] at q; exact q.elim
  · exact q.elim⟩
def splitD : D → List D → List Ob → R D := fun o ds μ => match o, ds with
  | .str a, [.str b] => if (b.length == 0) = false ∧ a.length + 2 ≤ 16777216 then .ok (.lst ((Txt.split a b).map D.str)) μ else .bad
  | _, _ => .bad
def rSplitS : V → List V → Hp → VK → Prop := fun x xs H Q => ∃ a b, x = .str a ∧ xs = [.str b] ∧ (b.length == 0) = false ∧ a.length + 2 ≤ sizeLine ∧ rNewStrs (Txt.split a b) H Q
theorem mtn_split : Mtn K "str" rSplitS isStr splitD := ⟨fun α F H v d => ty_str, fun γ α F H μ v d vs ds Q E w hv hds q => by
  unfold splitD at q
  split at q
  · rename_i a b
    cases hv
    obtain ⟨u, rfl, hu⟩ := hds.one
    cases hu
    split at q
    · rename_i h
      refine ⟨a, b, rfl, rfl, h.1, by rw [sizeLine_eq]; exact h.2, fun p hp => ?_⟩
      exact fin_lay w hp (.lst upd_same (is_strs _)) q
    · exact q.elim
  · exact q.elim⟩
end
section
variable {X : Cx} {W : WX} {o e : Expr} {fo : RE} {fs : RA} {apos cpos : Pos}
theorem pd_append (ho : PD X W o fo) (ha : PDA X W [e] fs) (hbase : attributeBase o "append" X.env (eval o X.env) = eval o X.env := by rfl) (hline : (apos.endLine == cpos.line) = true := by rfl)
    (hs : starEach [e] X.env = [(false, eval e X.env)] := by rfl) : PD X W (.Call (.Attribute o "append" apos) [e] [] cpos) (rMt isLst apD fo fs) :=
  pd_mt F.plainAttrs_list F.slot_list_append F.type_list_append mt_append mtn_append ho ha hbase (by rw [hs]; rfl) hline (by rw [hs]; rfl) rfl
theorem pd_extend (ho : PD X W o fo) (ha : PDA X W [e] fs) (hbase : attributeBase o "extend" X.env (eval o X.env) = eval o X.env := by rfl) (hline : (apos.endLine == cpos.line) = true := by rfl)
    (hs : starEach [e] X.env = [(false, eval e X.env)] := by rfl) : PD X W (.Call (.Attribute o "extend" apos) [e] [] cpos) (rMt isLst exD fo fs) :=
  pd_mt F.plainAttrs_list F.slot_list_extend F.type_list_extend mt_extend mtn_extend ho ha hbase (by rw [hs]; rfl) hline (by rw [hs]; rfl) rfl
theorem pd_join (ho : PD X W o fo) (ha : PDA X W [e] fs) (hbase : attributeBase o "join" X.env (eval o X.env) = eval o X.env := by rfl) (hline : (apos.endLine == cpos.line) = true := by rfl)
    (hs : starEach [e] X.env = [(false, eval e X.env)] := by rfl) : PD X W (.Call (.Attribute o "join" apos) [e] [] cpos) (rMt isStr joinD fo fs) :=
  pd_mt F.plainAttrs_str F.slot_str_join F.type_str_join mt_join mtn_join ho ha hbase (by rw [hs]; rfl) hline (by rw [hs]; rfl) rfl
theorem pd_split (ho : PD X W o fo) (ha : PDA X W [e] fs) (hbase : attributeBase o "split" X.env (eval o X.env) = eval o X.env := by rfl) (hline : (apos.endLine == cpos.line) = true := by rfl)
    (hs : starEach [e] X.env = [(false, eval e X.env)] := by rfl) : PD X W (.Call (.Attribute o "split" apos) [e] [] cpos) (rMt isStr splitD fo fs) :=
  pd_mt F.plainAttrs_str F.slot_str_split F.type_str_split mt_split mtn_split ho ha hbase (by rw [hs]; rfl) hline (by rw [hs]; rfl) rfl
end

/-! ### dicts: {}, a dict that stands still from here; stars in displays -/
section
variable {X : Cx} {W : WX} {e : Expr} {es : List Expr} {f : RE} {fs : RA} {pos p : Pos}
def rDnew : RE := fun _ μ => .ok (.loc μ.length) (μ ++ [.dct [] []])
theorem pd_dnew : PD X W (.Dict [] [] pos) rDnew := pe_weak pe_dnewK fun σ H Q ⟨γ, α, F, μ, δ, w, s, q⟩ l hl =>
  q (α ++ [l]) F _ (List.prefix_append _ _) (Same.refl F) (w.new hl ⟨[], upd_same, rfl, .nil⟩) _ (.loc (w.newAt l))
/-- the dict e gives is not changed any more -/
def rFrz (f : RE) : RE := fun δ μ => (f δ μ).bind fun d μ1 => match d with
  | .loc k => match μ1[k]? with
    | some (.dct ks xs) => .ok (.dct ks xs) (μ1.set k .dead)
    | _ => .bad
  | _ => .bad
theorem pd_frz (h : PD X W e f) : PD X W e (rFrz f) := pe_weak (pe_frz h) fun σ H Q ⟨γ, α, F, μ, δ, w, s, q⟩ => tD_go w s q fun d μ1 α1 F1 H1 v p1 e1 w1 s1 hv q1 => by
  cases d with
  | loc k =>
    cases hv with
    | loc ha =>
      rename_i a
      simp only at q1
      cases hm : μ1[k]? with
      | none => rw [hm] at q1; exact q1.elim
      | some ob =>
        rw [hm] at q1
        have hob := w1.obj k a ob ha hm
        cases ob with
        | dct ks xs =>
          obtain ⟨kvs, h1, h2, h3⟩ := hob
          refine ⟨a, kvs, rfl, h1, fun o => ?_⟩
          have hn : F1 a = none := w1.apart k a _ ha hm (by intro z; cases z)
          exact q1 α1 _ _ (List.prefix_refl _) (same_new hn) (w1.frz ha hm (by intro z; cases z)) _ (.dct ⟨o, upd_same⟩ h2 (h3.mono (List.prefix_refl _) (same_new hn)))
        | _ => exact q1.elim
  | _ => exact q1.elim
/-- *xs among a display's parts -/
def rStar (f : RE) (fs : RA) : RA := fun δ μ => (f δ μ).bind fun d μ1 => match d.view μ1 with
  | .lst xs => (fs δ μ1).bind fun ds μ2 => .ok (xs ++ ds) μ2
  | .tup xs => (fs δ μ1).bind fun ds μ2 => .ok (xs ++ ds) μ2
  | _ => .bad
theorem pda_star (he : PD X W e f) (hr : PDA X W es fs) (hs : starEach (.Starred e p :: es) X.env = (true, eval e X.env) :: starEach es X.env := by rfl) : PDA X W (.Starred e p :: es) (rStar f fs) :=
  pa_weak (StX.pa_star he hr hs) fun σ H Q ⟨γ, α, F, μ, δ, w, s, q⟩ => tD_go w s q fun d μ1 α1 F1 H1 v p1 e1 w1 s1 hv q1 => by
    have vw := w1.view hv
    cases hd : d.view μ1 with
    | lst xs =>
      rw [hd] at q1 vw
      obtain ⟨a, us, rfl, ha, l⟩ := vw
      exact ⟨a, us, rfl, .inr (.inl (.inl ha)), tDA_go w1 s1 q1 fun ds μ2 α2 F2 H2 vs p2 e2 w2 s2 hvs q2 => q2 α2 F2 H2 (List.prefix_refl _) (Same.refl F2) w2 _ ((l.mono p2 e2).append hvs)⟩
    | tup xs =>
      rw [hd] at q1 vw
      obtain ⟨a, us, rfl, ha, l⟩ := vw
      exact ⟨a, us, rfl, .inl ha, tDA_go w1 s1 q1 fun ds μ2 α2 F2 H2 vs p2 e2 w2 s2 hvs q2 => q2 α2 F2 H2 (List.prefix_refl _) (Same.refl F2) w2 _ ((l.mono p2 e2).append hvs)⟩
    | _ => rw [hd] at q1; exact q1.elim
end
end DL

/-! The data layer, j: attributes, own objects made and compared, dict comprehensions. -/
namespace DL
open PySem L2

/-! ### attributes -/
/-- an attribute of an own class's objects -/
structure At (K : PySem.W.Frag) (C : Addr) (f : Str) : Prop where
  cl : Cls K C
  no : NoAttr K C f
def fldD (C : Addr) (f : Str) (d : D) (μ : List Ob) : R D := match d.view μ with
  | .ins C' fs xs => if C' = C then (match lookD fs xs f with
    | some x => .ok x μ
    | none => .bad) else .bad
  | _ => .bad
def rFld (C : Addr) (f : Str) (fe : RE) : RE := fun δ μ => (fe δ μ).bind fun d μ1 => fldD C f d μ1
theorem lookup_val {f : Str} : ∀ {fv : List (Str × V)}, fv.lookup f = valV fv f
  | [] => rfl
  | (g, v) :: r => by
    rw [List.lookup_cons]
    by_cases h : g = f
    · subst h
      rw [valV_pos rfl]
      simp
    · rw [valV_neg h, ← lookup_val]
      have : (f == g) = false := beq_eq_false_iff_ne.mpr (Ne.symm h)
      rw [this]
section
variable {K : PySem.W.Frag} {γ : Hp} {α : List Addr} {F H : Hp} {μ : List Ob} {σ : St} {δ : Sl} {W : WX} {Q : VK} {E : XK}
theorem look_val' {κ : Type} [DecidableEq κ] {k : κ} {kvs : List (κ × V)} {xs : List D} {d : D} (l : IsL K α F (kvs.map (·.2)) xs) (e : lookD (kvs.map (·.1)) xs k = some d) : ∃ v, valV kvs k = some v ∧ Is K α F v d := (look_val k l).1 d e
theorem is_fld {a : Addr} {C : Addr} {dx : Addr} {fv : List (Str × V)} {f : Str} {x : D} {xs : List D} (l : IsL K α F (fv.map (·.2)) xs) (e : lookD (fv.map (·.1)) xs f = some x) : ∃ v, fv.lookup f = some v ∧ Is K α F v x := by
  obtain ⟨v, h1, h2⟩ := look_val' l e
  exact ⟨v, by rw [lookup_val]; exact h1, h2⟩
end
section
variable {X : Cx} {W : WX} {o e value : Expr} {fe fo fv : RE} {f : Str} {pos pos' : Pos} {C : Addr}
theorem pd_fld (T : At X.K C f) (ha : PD X W e fe) (hb : attributeBase e f X.env (eval e X.env) = eval e X.env := by rfl) : PD X W (.Attribute e f pos) (rFld C f fe) :=
  pe_weak (pe_fld ha hb) fun σ H Q ⟨γ, α, F, μ, δ, w, s, q⟩ => tD_go w s q fun d μ1 α1 F1 H1 v p1 e1 w1 s1 hv q1 => by
    unfold fldD at q1
    have vw := w1.view hv
    cases hd : d.view μ1 with
    | ins C' fs xs =>
      rw [hd] at q1 vw
      simp only at q1
      split at q1
      · rename_i hC
        subst hC
        obtain ⟨a, dx, fv, rfl, h1, rfl, l⟩ := vw
        cases hx : lookD (fv.map (·.1)) xs f with
        | none => rw [hx] at q1; exact q1.elim
        | some x =>
          rw [hx] at q1
          obtain ⟨u, h3, h4⟩ := is_fld (a := a) (C := C') (dx := dx) l hx
          exact ⟨a, C', dx, fv, u, rfl, h1, T.cl, T.no, h3, q1 α1 F1 H1 (List.prefix_refl _) (Same.refl F1) w1 u h4⟩
      · exact q1.elim
    | _ => rw [hd] at q1; exact q1.elim
/-- o.f = e -/
def putFs (fs : List Str) (f : Str) : List Str := if fs.any (fun g => decide (g = f)) then fs else fs ++ [f]
def putFx (fs : List Str) (xs : List D) (f : Str) (d : D) : List D := if fs.any (fun g => decide (g = f)) then List.zipWith (fun g x => if g = f then d else x) fs xs else xs ++ [d]
def stFld (C : Addr) (f : Str) (o d : D) (μ : List Ob) : R Unit := match o with
  | .loc k => match μ[k]? with
    | some (.ins C' fs xs) => if C' = C then (if fs.length < 1000 then (if fs.Nodup then .ok () (μ.set k (.ins C' (putFs fs f) (putFx fs xs f d))) else .bad) else .bad) else .bad
    | _ => .bad
  | _ => .bad
def rSetF (C : Addr) (f : Str) (fo fv : RE) : RS := fun δ μ => (fv δ μ).st δ fun d μ1 => (fo δ μ1).st δ fun o μ2 => (stFld C f o d μ2).st δ fun _ μ3 => .nx δ μ3
theorem putF_keys {f : Str} {v : V} : ∀ {fs : List (Str × V)}, (putF f v fs).map (·.1) = putFs (fs.map (·.1)) f
  | [] => rfl
  | (g, x) :: r => by
    unfold putF putFs
    rw [List.map_cons, List.any_cons]
    by_cases h : g = f
    · rw [if_pos h]
      rw [decide_eq_true h, Bool.true_or, if_pos rfl]
      rfl
    · rw [if_neg h]
      rw [decide_eq_false h, Bool.false_or, List.map_cons, putF_keys]
      unfold putFs
      split <;> rfl
theorem zip_same {f : Str} {d : D} : ∀ {fs : List Str} {xs : List D}, f ∉ fs → fs.length = xs.length → List.zipWith (fun g x => if g = f then d else x) fs xs = xs
  | [], [], _, _ => rfl
  | g :: fs, x :: xs, h, e => by
    have hg : ¬ g = f := fun q => h (by rw [← q]; exact List.mem_cons_self ..)
    rw [List.zipWith_cons_cons, if_neg hg, zip_same (fun q => h (List.mem_cons_of_mem _ q)) (Nat.succ.inj e)]
theorem putF_vals {K : PySem.W.Frag} {α : List Addr} {F : Hp} {f : Str} {v : V} {d : D} (h : Is K α F v d) : ∀ {fs : List (Str × V)} {xs : List D}, (fs.map (·.1)).Nodup → IsL K α F (fs.map (·.2)) xs → IsL K α F ((putF f v fs).map (·.2)) (putFx (fs.map (·.1)) xs f d)
  | [], _, _, .nil => .cons h .nil
  | (g, u) :: r, x :: xs, nd, .cons hu l => by
    unfold putF putFx
    rw [List.map_cons, List.any_cons]
    have nd' := List.nodup_cons.mp nd
    have hl := l.length
    rw [List.length_map] at hl
    by_cases e : g = f
    · rw [if_pos e]
      rw [decide_eq_true e, Bool.true_or, if_pos rfl]
      rw [List.zipWith_cons_cons, if_pos e]
      refine .cons h ?_
      rw [zip_same (by rw [← e]; exact nd'.1) (by rw [List.length_map]; exact hl)]
      exact l
    · rw [if_neg e]
      rw [decide_eq_false e, Bool.false_or]
      have ih := putF_vals (f := f) (v := v) (d := d) h nd'.2 l
      unfold putFx at ih
      split
      · rename_i h2
        rw [if_pos h2] at ih
        rw [List.zipWith_cons_cons, if_neg e]
        exact .cons hu ih
      · rename_i h2
        rw [if_neg h2] at ih
        exact .cons hu ih
theorem psd_fld (T : At X.K C f) (ha : PD X W o fo) (hv : PD X W value fv) (hs : swapsWith value (some (.Attribute o f pos')) pos.line X.env = pure false := by rfl) : PSD X W (.Assign [.Attribute o f pos'] value pos) (rSetF C f fo fv) :=
  ps_weak (ps_fld ha hv hs) fun D' σ H ⟨γ, α, F, μ, δ, w, s, q⟩ => tD_st w s q fun d μ1 α1 F1 H1 v p1 e1 w1 s1 hv q1 => tD_st w1 s1 q1 fun o μ2 α2 F2 H2 x p2 e2 w2 s2 ho q2 => by
    unfold stFld at q2
    cases o with
    | loc k =>
      cases ho with
      | loc ha =>
        rename_i a
        simp only at q2
        cases hm : μ2[k]? with
        | none => rw [hm] at q2; exact q2.elim
        | some ob =>
          rw [hm] at q2
          have hob := w2.obj k a ob ha hm
          cases ob with
          | ins C' fs xs =>
            simp only at q2
            split at q2
            · rename_i hC
              subst hC
              split at q2
              · rename_i hl
                split at q2
                · rename_i nd
                  obtain ⟨dx, gv, h1, rfl, l⟩ := hob
                  rw [List.length_map] at hl
                  exact ⟨a, C', dx, gv, rfl, h1, T.cl, T.no, hl, q2.nx_ (w2.put (ob' := .ins C' (putFs _ f) (putFx _ xs f d)) ha hm (by intro z; cases z) ⟨dx, _, upd_same, putF_keys, putF_vals (hv.mono p2 e2) nd l⟩) s2⟩
                · exact q2.elim
              · exact q2.elim
            · exact q2.elim
          | _ => exact q2.elim
    | _ => exact q2.elim
end

/-! ### C(..): an object is made -/
/-- .. and stands still from then on -/
def rMake (C : Addr) (n : Nat) (ct : Ct) (fs : RA) : RE := fun δ μ => (fs δ μ).bind fun ds μ1 => if ds.length = n then (match ct (.loc μ1.length :: ds) (μ1 ++ [.ins C [] []]) with
  | .ok .non μ2 => (match μ2[μ1.length]? with
    | some (.ins C' fs xs) => .ok (.ins C' fs xs) (μ2.set μ1.length .dead)
    | _ => .bad)
  | _ => .bad)
  else .bad
/-- a class of the text, its __init__ by contract -/
structure Cml (P : Program) (w : World) (K : PySem.W.Frag) (mg : Str → Option Value) (base : Heap) (k : Nat) (x : Str) (C : Addr) (n : Nat) (ct : Ct) : Prop where
  ex : ∃ (f : Addr) (fd : FuncData) (ps : List Str), ps.length = n + 1 ∧ Mk K C f ∧ FnOk P w K mg base (L2.CX P w) k f fd ps (spD K (n + 1) ct) ∧ mg x = some (.ref C) ∧ Binds K fd ps []
section
variable {X : Cx} {W : WX} {k j n : Nat} {x : Str} {ct : Ct} {C : Addr}
theorem Wd.mk2 {K : PySem.W.Frag} {γ : Hp} {α : List Addr} {F H : Hp} {μ : List Ob} {a dx : Addr} (w : Wd K γ α F H μ) (ha : H a = none) (hd : H dx = none) (ne : dx ≠ a) : Wd K γ (α ++ [a]) F (upd (upd H dx (.own a)) a (.ins C dx [])) (μ ++ [.ins C [] []]) := by
  have w1 := w.lay0 (o := .own a) hd
  refine w1.new (by rw [upd_ne ne.symm]; exact ha) ⟨dx, [], upd_same, rfl, .nil⟩
theorem pd_make {e : Expr} {es : List Expr} {fs : RA} {p pos : Pos} (c : Cml X.prog X.w X.K X.mg X.base k x C n ct) (g : Good X W j) (ha : PDA X W (e :: es) fs) (hk : k + 1 ≤ j := by decide) (hg : Gl X x := by rfl) (hdb : (x == ("__debug__" : Str)) = false := by decide)
    (he : starEach (e :: es) X.env = (false, eval e X.env) :: starEach es X.env := by rfl) (hpl : (backTo pos (starEach es X.env)).any (·.1) = false := by rfl)
    : PD X W (.Call (.Name x p) (e :: es) [] pos) (rMake C n ct fs) := by
  obtain ⟨f, fd, ps, hnn, M, F, hm, hb⟩ := c.ex
  refine pe_weak (pe_make M F (g.hr.mono hk) hg hm hb .nil passL ha hdb he hpl) fun σ H Q ⟨γ, α, F, μ, δ, w, s, q⟩ => ?_
  refine tDA_go w s q fun ds μ1 α1 F1 H1 vs p1 e1 w1 s1 hv q1 => ?_
  intro a dx h1 h2 ne
  by_cases hl : ds.length = n
  · rw [if_pos hl] at q1
    have w2 := w1.mk2 (C := C) h1 h2 ne
    have px : α1 <+: α1 ++ [a] := List.prefix_append _ _
    refine ⟨by simp [hv.length, hl], γ, α1 ++ [a], F1, _, _, w2, .cons (.loc (w1.newAt a)) ((by rw [List.append_nil]; exact hv.mono px (Same.refl F1))), ?_⟩
    cases hc : ct (.loc μ1.length :: ds) (μ1 ++ [.ins C [] []]) with
    | bad => rw [hc] at q1; exact q1.elim
    | exc x μ2 => rw [hc] at q1; exact q1.elim
    | ok d μ2 =>
      rw [hc] at q1
      intro α2 F2 H2 p2 e2 w3 v hvd
      cases d with
      | non =>
        cases hvd
        refine ⟨rfl, ?_⟩
        simp only at q1
        cases hm2 : μ2[μ1.length]? with
        | none => rw [hm2] at q1; exact q1.elim
        | some ob =>
          rw [hm2] at q1
          have hat : α2[μ1.length]? = some a := pre_get p2 (w1.newAt a)
          have hob := w3.obj _ a ob hat hm2
          cases ob with
          | ins C' fs xs =>
            simp only at q1
            obtain ⟨dx', fv, g1, g2, g3⟩ := hob
            have fa : F2 a = none := w3.apart _ a _ hat hm2 (by intro z; cases z)
            have w4 := w3.frz (o := .ins C' dx' fv) hat hm2 (by intro z; cases z)
            rw [upd_id g1] at w4
            exact q1 α2 _ H2 (px.trans p2) (e2.trans (same_new fa)) w4 _ (.ins upd_same g2 (g3.mono (List.prefix_refl _) (same_new fa)))
          | _ => exact q1.elim
      | _ => exact q1.elim
  · rw [if_neg hl] at q1; exact q1.elim
end

/-! ### == by the text's own __eq__ -/
def rOwn (C : Addr) (sp : Sp) (E : XK) : R2 := fun x y H Q => ∃ a b dx dy fs gs, x = .ref a ∧ y = .ref b ∧ H a = some (.ins C dx fs) ∧ H b = some (.ins C dy gs) ∧ sp [.ref a, .ref b] H (fun v H' => (∃ k, v = .bl k) ∧ Q v H') E
theorem op_own {X : Cx} {CX : CXT} {C f : Addr} {fd : FuncData} {ps : List Str} {sp : Sp} {E : XK} {n : Nat} (F : FnOk X.prog X.w X.K X.mg X.base CX n f fd ps sp) (hr : Room n X.A)
    (hs : PySem.W.findIn X.K (.ref C) "__eq__" = some (some (.ref f))) (hf : PySem.W.isFn X.K (.ref f) = true) (hb : Binds X.K fd ps []) (hx : Passes CX X E) : OpR X (compareOp .Eq) (rOwn C sp E) := by
  intro pins s σ H x y u v Q I rx ry d
  obtain ⟨a, b, dx, dy, fs, gs, e1, e2, ha, hb', hsp⟩ := d
  subst e1
  subst e2
  cases rx
  cases ry
  obtain ⟨mA, J, _⟩ := ins_get I.hok ha
  obtain ⟨mB, J', _⟩ := ins_get I.hok hb'
  obtain ⟨od, J, _⟩ := J.look
  obtain ⟨od', J', _⟩ := J'.look
  obtain ⟨m, hF⟩ := I.fr
  show wpAny (model X.prog X.w) X.A (richCompare .Eq (.ref a) (.ref b)) (EP X pins σ Q) X.xe s
  refine PySem.W.cmp_K (op := .Eq) (tb := .ref C) hr.units0 hF I.ok.mod.kin J J'.type (by simp [PySem.W.notFirst]) hs hf ?_
  have hl := F.len _ _ _ _ hsp
  have r2 : Vals [V.ref a, V.ref b] [Value.ref a, Value.ref b] := .cons rfl (.cons rfl .nil)
  refine wpAny_call (codeAny_mono (F.run X.A X.stack s H ⟨[.ref a, .ref b], []⟩ [.ref a, .ref b] [.ref a, .ref b] _ E hr I.env0 (by
    have := hb s [.ref a, .ref b] I.kIn (by simpa using hl)
    simpa using this) r2 hsp) fun r s' hq => ?_)
  cases r with
  | error e => exact hx pins σ H s e s' I hq
  | ok fl =>
    cases fl with
    | ret w =>
      obtain ⟨z, H', I', rz, ⟨kk, ez⟩, ex⟩ := I.after hq
      subst ez
      cases rz
      exact ⟨.bl kk, H', I', rfl, ex⟩
    | next => exact False.elim hq
    | brk => exact False.elim hq
    | cont => exact False.elim hq
/-- the class C has an own ==, kept by contract -/
structure Ceq (P : Program) (w : World) (K : PySem.W.Frag) (mg : Str → Option Value) (base : Heap) (k : Nat) (C : Addr) (ct : Ct) : Prop where
  ex : ∃ (f : Addr) (fd : FuncData) (ps : List Str), ps.length = 2 ∧ FnOk P w K mg base (L2.CX P w) k f fd ps (spD K 2 ct) ∧ PySem.W.findIn K (.ref C) "__eq__" = some (some (.ref f)) ∧ PySem.W.isFn K (.ref f) = true ∧ Binds K fd ps []
def ownD (C : Addr) (ct : Ct) (d e : D) (μ : List Ob) : R D := match d.view μ, e.view μ with
  | .ins C1 _ _, .ins C2 _ _ => if C1 = C ∧ C2 = C then (match ct [d, e] μ with
    | .ok (.bl k) μ1 => .ok (.bl k) μ1
    | _ => .bad) else .bad
  | _, _ => .bad
theorem op2_own {K : PySem.W.Frag} {C : Addr} {ct : Ct} : Op2 K (rOwn C (spD K 2 ct) E0) (ownD C ct) := fun γ α F H μ x y d e Q E w hx hy q => by
  unfold ownD at q
  have v1 := w.view hx
  have v2 := w.view hy
  cases hd : d.view μ with
  | ins C1 fs xs =>
    rw [hd] at q v1
    cases he : e.view μ with
    | ins C2 gs ys =>
      rw [he] at q v2
      simp only at q
      split at q
      · rename_i hC
        obtain ⟨rfl, rfl⟩ := hC
        obtain ⟨a, dx, fv, rfl, h1, _, _⟩ := v1
        obtain ⟨b, dy, gv, rfl, h3, _, _⟩ := v2
        refine ⟨a, b, dx, dy, fv, gv, rfl, rfl, h1, h3, rfl, γ, α, F, μ, [d, e], w, .cons hx (.cons hy .nil), ?_⟩
        cases hc : ct [d, e] μ with
        | bad => rw [hc] at q; exact q.elim
        | exc x μ1 => rw [hc] at q; exact q.elim
        | ok z μ1 =>
          rw [hc] at q
          cases z with
          | bl k => exact fun α' F' H' p e' w' v hv => ⟨⟨k, by cases hv; rfl⟩, q α' F' H' p e' w' v hv⟩
          | _ => exact q.elim
      · exact q.elim
    | _ => rw [he] at q; exact q.elim
  | _ => rw [hd] at q; exact q.elim
section
variable {X : Cx} {W : WX} {k j : Nat} {C : Addr} {ct : Ct} {a b : Expr} {fa fb : RE} {pos : Pos}
theorem pdt_own (c : Ceq X.prog X.w X.K X.mg X.base k C ct) (g : Good X W j) (ha : PD X W a fa) (hb : PD X W b fb) (hk : k ≤ j := by decide) (hm : behindInMarks .Eq b = false := by rfl) : PDT X W (.Compare a [.Eq] [b] pos) (rT (rBin (ownD C ct) fa fb)) := by
  obtain ⟨f, fd, ps, hn, F, hs, hf, hbd⟩ := c.ex
  exact pdt_cmp (op_own F (g.hr.mono hk) hs hf hbd passL) op2_own hm ha hb
theorem pd_own (c : Ceq X.prog X.w X.K X.mg X.base k C ct) (g : Good X W j) (ha : PD X W a fa) (hb : PD X W b fb) (hk : k ≤ j := by decide) (hm : behindInMarks .Eq b = false := by rfl) : PD X W (.Compare a [.Eq] [b] pos) (rBin (ownD C ct) fa fb) := by
  obtain ⟨f, fd, ps, hn, F, hs, hf, hbd⟩ := c.ex
  exact pd_cmp (op_own F (g.hr.mono hk) hs hf hbd passL) op2_own hm ha hb
end
end DL

/-! The data layer, k: a module's dict; dict comprehensions. -/
namespace DL
open PySem L2

/-! ### a dict that a module's top has written -/
def EntIs (e : DictEntry) (p : Key × V) : Prop := (∃ x t, e.key = .str x t ∧ p.1 = .inr x) ∧ RelV p.2 e.val
structure KDat (K : PySem.W.Frag) (w : World) (a : Addr) (kvs : List (Key × V)) : Prop where
  ex : ∃ (es : Array DictEntry) (n : Nat), K.lookup a = some ⟨.type "dict", none, .dict es n, #[]⟩ ∧ PySem.W.KeysLit w.params es.toList ∧ Paired EntIs es.toList kvs
  low : (a == sysModules) = false
  nd : (kvs.map (·.1)).Nodup
  sz : kvs.length ≤ sizeLine
section
variable {X : Cx} {pins : List (Addr × Obj)} {σ : St} {H : Hp} {s : Shared} {a : Addr} {kvs : List (Key × V)}
theorem ents_pairs {P : Program} {w : World} : ∀ {es : List DictEntry} {kvs : List (Key × V)}, Paired EntIs es kvs → ∃ vs, Pairs (mixKind P w) es vs ∧ KV kvs vs ∧ vs.map (·.1) = kvs.map (·.1)
  | _, _, .nil => ⟨[], .nil, .nil, rfl⟩
  | e :: _, p :: _, .cons h t => by
    obtain ⟨vs, h1, h2, h3⟩ := ents_pairs (P := P) (w := w) t
    obtain ⟨⟨x, tk, e1, e2⟩, r⟩ := h
    refine ⟨(p.1, e.val) :: vs, .cons ?_ rfl h1, .cons ⟨rfl, r⟩ h2, by rw [List.map_cons, List.map_cons, h3]⟩
    show keyIs p.1 e.key = true
    rw [e1, e2]
    exact keyIs_str x tk
theorem kdat_at (D : KDat X.K X.w a kvs) (I : Inv X pins σ H s) : ∃ (o : Obj) (es : Array DictEntry) (ep : Nat) (vs : List (Key × Value)), s.heap.get? a = some o ∧ o.ExactDict ∧ o.data = .dict es ep ∧ es.size = kvs.length ∧ KV kvs vs ∧ s.heap.DictAt (mixKind X.prog X.w) a vs ep := by
  obtain ⟨es, n, h1, h2, h3⟩ := D.ex
  obtain ⟨vs, p1, p2, p3⟩ := ents_pairs (P := X.prog) (w := X.w) h3
  have hg := I.kIn _ _ h1
  refine ⟨_, es, n, vs, hg, ⟨rfl, rfl, rfl⟩, rfl, ?_, p2, _, es, hg, ⟨rfl, rfl, rfl⟩, rfl, fun e he => ?_, p1, ?_⟩
  · have := h3.length
    rw [Array.length_toList] at this
    exact this
  · obtain ⟨x, t, e1, e2⟩ := h2.all e (Array.mem_toList_iff.mpr he)
    exact ⟨.inr x, by rw [e1]; exact keyIs_str x t, e2⟩
  · have e : vs.map (·.1) = kvs.map (·.1) := p3
    rw [e]
    exact D.nd

/-! ### len, list -/
theorem call_lenP (D : KDat X.K X.w a kvs) : CallR X (.builtin "len") (fun xs H Q => xs = [V.ref a] ∧ Q (.int kvs.length) H) := by
  intro pins s σ H xs us Q I r q
  obtain ⟨rfl, q⟩ := q
  obtain ⟨u, rfl, ru⟩ := vals1 r
  cases ru
  obtain ⟨o, es, ep, vs, _, _, _, _, kk, dd⟩ := kdat_at D I
  have hl : kvs.length = vs.length := Paired.length kk
  have h0 := sizeLine_eq
  have h1 := D.sz
  exact call_len_dict D.low dd.dictOf (by omega) ⟨.int kvs.length, H, I.tok _, ⟨_, by rw [hl]⟩, q⟩
theorem call_listP (hc : X.calm = true) (D : KDat X.K X.w a kvs) : CallR X (.type "list") (fun xs H Q => xs = [.ref a] ∧ ∀ p, H p = none → Q (.ref p) (upd H p (.lst (kvs.map fun kv => kV kv.1)))) := by
  intro pins s σ H xs us Q I r q
  obtain ⟨rfl, q⟩ := q
  obtain ⟨u, rfl, ru⟩ := vals1 r
  cases ru
  obtain ⟨o, es, ep, vs, _, _, _, _, kk, dd⟩ := kdat_at D I
  have ek : (kvs.map fun kv => kV kv.1) = vs.map fun p => kV p.1 := by
    have z := congrArg (List.map kV) kk.keys
    rw [List.map_map, List.map_map] at z
    exact z
  refine PySem.W.kdl_call (PySem.W.kdl_dict (knd := mixKind X.prog X.w) (kvs := vs) (ep := ep) D.low) (I.ok.hd hc) dd (by rw [← Paired.length kk]; exact D.sz) fun h' tk acc c' hk hD hacc => ?_
  have hv : Vals (vs.map fun p => kV p.1) acc.toList := keys_at (by rw [Array.length_toList]; exact hacc.1) fun j v z => hacc.2 j v (by rw [← Array.getElem?_toList]; exact z)
  have hnew : ObjOk X.prog X.w (upd H s.heap.objs.size (.lst (kvs.map fun kv => kV kv.1))) h' s.heap.objs.size (.lst (kvs.map fun kv => kV kv.1)) :=
    ⟨by rw [List.length_map]; exact D.sz, acc.toList, c', by rw [ek]; exact hv, by rw [Array.toArray_toList]; exact hD⟩
  exact ⟨.ref s.heap.objs.size, _, I.laid (t' := tk) hk (Nat.le_refl _) hnew, rfl, q _ (I.hok.fresh (Nat.le_refl _))⟩
end
/-- the built-ins on the dict at a, n keys -/
def onP (a : Addr) (g : List Ob → R D) : List D → List Ob → R D := fun ds μ => match ds with
  | [.vv (.ref b)] => if b = a then g μ else .bad
  | _ => .bad
section
variable {K : PySem.W.Frag} {a : Addr} {kvs : List (Key × V)}
theorem opn_lenP : Opn K (fun xs H Q => xs = [V.ref a] ∧ Q (.int kvs.length) H) (onP a fun μ => .ok (.int (kvs.length : Nat)) μ) := fun γ α F H μ vs ds Q E w hv q => by
  unfold onP at q
  split at q
  · split at q
    · rename_i b hb
      subst hb
      obtain ⟨v, rfl, h⟩ := hv.one
      have e := Is.toVv h
      subst e
      exact ⟨rfl, fin_ok w (.int _) q⟩
    · exact q.elim
  · exact q.elim
theorem opn_listP : Opn K (fun xs H Q => xs = [.ref a] ∧ ∀ p, H p = none → Q (.ref p) (upd H p (.lst (kvs.map fun kv => kV kv.1)))) (onP a fun μ => .ok (.lst ((kvs.map (·.1)).map Key.d)) μ) := fun γ α F H μ vs ds Q E w hv q => by
  unfold onP at q
  split at q
  · split at q
    · rename_i b hb
      subst hb
      obtain ⟨v, rfl, h⟩ := hv.one
      have e := Is.toVv h
      subst e
      refine ⟨rfl, fun p hp => ?_⟩
      have l : IsL K α F (kvs.map fun kv => kV kv.1) ((kvs.map (·.1)).map Key.d) := by
        have := keys_is (K := K) (α := α) (F := F) (kvs.map (·.1))
        rw [List.map_map] at this
        exact this
      exact fin_lay w hp (.lst upd_same (l.mono (List.prefix_refl _) (same_new (w.sub.free hp)))) q
    · exact q.elim
  · exact q.elim
end

/-! ### walked: its keys, its pairs -/
def ItkP (kvs : List (Key × V)) : It := ⟨fun i _ => i < kvs.length, fun i H x H' => H' = H ∧ ∃ k v, kvs[i]? = some (k, v) ∧ x = kV k, fun i _ => kvs.length ≤ i⟩
def ItiP (kvs : List (Key × V)) : It := ⟨fun i _ => i < kvs.length, fun i H x H' => ∃ T k v, kvs[i]? = some (k, v) ∧ x = .ref T ∧ H T = none ∧ H' = upd H T (.tup [kV k, v]), fun i _ => kvs.length ≤ i⟩
section
variable {P : Program} {w : World} {K : PySem.W.Frag} {tg : Expr} {d : Addr} {ep : Nat} {kvs : List (Key × V)}
theorem same_ep {h : Heap} {o : Obj} {es es' : Array DictEntry} {ep ep' : Nat} (h1 : o.data = .dict es ep) (h2 : o.data = .dict es' ep') : ep' = ep := by
  rw [h1] at h2
  injection h2 with _ e
  exact e.symm
/-- the entries' place is the written one -/
theorem kdat_ep {X : Cx} {pins : List (Addr × Obj)} {σ : St} {H : Hp} {s : Shared} {a : Addr} (D : KDat X.K X.w a kvs) (I : Inv X pins σ H s) (es0 : Array DictEntry) (h0 : X.K.lookup a = some ⟨.type "dict", none, .dict es0 ep, #[]⟩) :
    ∃ (o : Obj) (vs : List (Key × Value)), s.heap.get? a = some o ∧ o.ExactDict ∧ o.data = .dict es0 ep ∧ es0.size = kvs.length ∧ KV kvs vs ∧ s.heap.DictAt (mixKind X.prog X.w) a vs ep := by
  obtain ⟨o, es, ep', vs, h1, h2, h3, h4, h5, h6⟩ := kdat_at D I
  have h7 := I.kIn _ _ h0
  rw [h1] at h7
  have e := Option.some.inj h7
  subst e
  injection h3 with e1 e2
  subst e1
  subst e2
  exact ⟨_, vs, h1, h2, rfl, h4, h5, h6⟩
theorem turn_keysP {es : Array DictEntry} (it : Addr) (D : KDat K w d kvs) (h0 : K.lookup d = some ⟨.type "dict", none, .dict es ep, #[]⟩) : Turn P w K tg (ItkP kvs) [it] it (fun i h => h.IsKeyIter it d i kvs.length ep) where
  mem := by simp
  obj := fun i h st b hb => by
    have e : b = it := by simpa using hb
    subst e
    obtain ⟨oi, e, c, dd⟩ := st
    exact ⟨oi, e, fun v z => by rw [dd] at z; cases z⟩
  keep := fun i h h' st k => st.at fun oi e => k it (by simp) oi e
  item := by
    intro X hP hw hK hc i pins s σ H E I hf st hg
    subst hP hw hK
    have hi : i < kvs.length := hg
    obtain ⟨f0, f1, f2, f3, f4, f5⟩ := hf it (by simp)
    obtain ⟨o, vs, hgd, hx, hdt, hsz, kv, hm⟩ := kdat_ep D I es h0
    obtain ⟨⟨k, v⟩, hkv⟩ : ∃ p, kvs[i]? = some p := ⟨kvs[i], List.getElem?_eq_getElem hi⟩
    obtain ⟨u, hu, ru⟩ := kv_get kv hkv
    have hl : kvs.length = vs.length := Paired.length kv
    rw [hl] at st
    refine wpAny_pyNext_dict_item st hm hu fun key h' hkey st' sb => ?_
    have I1 : Inv X pins σ H { s with heap := h' } := I.turned (t' := s.toks) (fun b ob hb e => (sb.2 b hb).trans e) f0 f1 f3 f4 f5
    obtain ⟨oi, e, c, dd⟩ := id st'
    refine ⟨key, rfl, go_of (s := { s with heap := h' }) e c dd (by decide) ⟨kV k, H, I1, relV_key (show keyIs k key = true from hkey), ⟨rfl, k, v, hkv, rfl⟩, ?_, fun b hb => (hf b hb).1⟩⟩
    show h'.IsKeyIter it d (i + 1) kvs.length _
    rw [hl]
    exact st'
  done := by
    intro X hP hw hK hc i pins s σ H E I hf st hg
    subst hP hw hK
    obtain ⟨f0, f1, f2, f3, f4, f5⟩ := hf it (by simp)
    obtain ⟨o, vs, hgd, hx, hdt, hsz, kv, hm⟩ := kdat_ep D I es h0
    exact next_key_end (I.ok.hd hc) st hgd hdt hsz hg fun h' eb => ⟨rfl, I.turned (t' := s.toks) (fun b ob hb e => eb b ob hb e) f0 f1 f3 f4 f5⟩
  self := fun A i s Q E st h => wpAny_pyIter_keyiter st h
theorem turn_itemsP {es : Array DictEntry} {elts : List Expr} {kk : Nat} {tpos : Pos} (it : Addr) (D : KDat K w d kvs) (h0 : K.lookup d = some ⟨.type "dict", none, .dict es ep, #[]⟩) :
    Turn P w K (.Tuple elts kk tpos) (ItiP kvs) [it] it (fun i h => ∃ ok ov, IsItemIter h it d i kvs.length ep ok ov) where
  mem := by simp
  obj := fun i h st b hb => by
    have e : b = it := by simpa using hb
    subst e
    obtain ⟨ok, ov, e⟩ := st
    exact ⟨_, e, fun v z => nomatch z⟩
  keep := fun i h h' st k => let ⟨ok, ov, e⟩ := st; ⟨ok, ov, k it (by simp) _ e⟩
  item := by
    intro X hP hw hK hc i pins s σ H E I hf st hg
    subst hP hw hK
    have hi : i < kvs.length := hg
    obtain ⟨o, vs, hgd, hx, hdt, hsz, kv, hm⟩ := kdat_ep D I es h0
    obtain ⟨⟨k, v⟩, hkv⟩ : ∃ p, kvs[i]? = some p := ⟨kvs[i], List.getElem?_eq_getElem hi⟩
    obtain ⟨u, hu, ru⟩ := kv_get kv hkv
    have hl : kvs.length = vs.length := Paired.length kv
    obtain ⟨ok, ov, he⟩ := st
    rw [hl] at he
    have hlt : it < s.heap.objs.size := Heap.lt_size he
    refine wpAny_pyNext_items_item he hm hu fun key h' hkey ho hT hz hk => ?_
    refine ⟨_, rfl, wpAny_letOwnedTupleGo_items (s := { s with heap := h' }) ho fun h'' he' sb => ?_⟩
    have hT2 : h''.get? s.heap.objs.size = some { cls := .type "tuple", data := .seq #[key, u] } := (sb.2 _ (Nat.ne_of_gt hlt)).trans hT
    have new : ObjOk X.prog X.w (upd H s.heap.objs.size (.tup [kV k, v])) h'' s.heap.objs.size (.tup [kV k, v]) :=
      ⟨by show 2 ≤ sizeLine; decide, [key, u], .cons (relV_key (show keyIs k key = true from hkey)) (.cons ru .nil), ⟨_, hT2, rfl, _, rfl⟩⟩
    have I1 : Inv X pins σ (upd H s.heap.objs.size (.tup [kV k, v])) { s with heap := h'' } :=
      I.turnedNew (t' := s.toks) (ch := [it]) (fun b ob hb e => (sb.2 b (by simpa using hb)).trans (hk b ob (by simpa using hb) e)) hf (Nat.le_refl _) new
    refine ⟨.ref s.heap.objs.size, _, I1, rfl, ⟨_, k, v, hkv, rfl, I.hok.fresh (Nat.le_refl _), rfl⟩, ⟨key, u, ?_⟩, fun b hb => ?_⟩
    · rw [hl]; exact he'
    · have e : b = it := by simpa using hb
      rw [e, upd_ne (Nat.ne_of_lt hlt)]
      exact (hf it (by simp)).1
  done := by
    intro X hP hw hK hc i pins s σ H E I hf st hg
    subst hP hw hK
    obtain ⟨f0, f1, f2, f3, f4, f5⟩ := hf it (by simp)
    obtain ⟨o, vs, hgd, hx, hdt, hsz, kv, hm⟩ := kdat_ep D I es h0
    have hl : kvs.length = vs.length := Paired.length kv
    have hge : kvs.length ≤ i := hg
    obtain ⟨ok, ov, he⟩ := st
    rw [hl] at he
    exact wpAny_pyNext_items_end (I.ok.hd hc) he hm (List.getElem?_eq_none (by omega)) fun h' eb => ⟨rfl, I.turned (t' := s.toks) (fun b ob hb e => eb b ob hb e) f0 f1 f3 f4 f5⟩
  self := fun A i s Q E st h => let ⟨_, _, e⟩ := st; PySem.W.kcp_self e h
end
section
variable {X : Cx} {tg e : Expr} {td : TE} {apos cpos : Pos} {a : Addr} {kvs : List (Key × V)}
theorem pi_keysP (D : KDat X.K X.w a kvs) (he : PE X e td) : PI X tg e (fun σ H R => td σ H fun x H1 => x = .ref a ∧ R (ItkP kvs) H1) := by
  refine ⟨fun pins s σ H R I h => ?_⟩
  refine thn (he.run pins s σ H _ I h) fun u s1 ⟨x, H1, I1, rx, ex, q⟩ => ?_
  subst ex
  obtain rfl : u = Value.ref a := rx
  obtain ⟨es, n, h0, h1, h2⟩ := D.ex
  obtain ⟨o, vs, hgd, hx, hdt, hsz, kv, hm⟩ := kdat_ep D I1 es h0
  refine iter_keys D.low hgd hx hdt (pi_one (tk := s1.toks) I1 _ (turn_keysP _ D h0) ⟨_, Heap.get?_push_size _ rfl, rfl, ?_⟩ q)
  rw [hsz] <;> rfl
theorem pi_itemsP {elts : List Expr} {kk : Nat} {tpos : Pos} (D : KDat X.K X.w a kvs) (he : PE X e td) (hbase : attributeBase e "items" X.env (eval e X.env) = eval e X.env := by rfl) (hline : (apos.endLine == cpos.line) = true := by rfl) :
    PI X (.Tuple elts kk tpos) (.Call (.Attribute e "items" apos) [] [] cpos) (fun σ H R => td σ H fun x H1 => x = .ref a ∧ R (ItiP kvs) H1) := by
  refine ⟨fun pins s σ H R I h => ?_⟩
  refine wpAny_Call_method (T := "dict") (id := "dict.items") hbase rfl hline F.plainAttrs_dict F.slot_dict_items F.type_dict_items (thn (he.run pins s σ H _ I h) fun u s1 ⟨x, H1, I1, rx, ex, q⟩ => ?_)
  subst ex
  obtain rfl : u = Value.ref a := rx
  obtain ⟨es, n, h0, h1, h2⟩ := D.ex
  obtain ⟨o, vs, hgd, hx, hdt, hsz, kv, hm⟩ := kdat_ep D I1 es h0
  have hl : kvs.length = vs.length := Paired.length kv
  refine ⟨hm.dictOf.typeIs, hm.dictOf.mapOf.noDict, ?_⟩
  have I2 : Inv X pins σ H1 { s1 with heap := s1.heap.push { cls := .type "dict_items", data := .fields #[.ref a] } } := I1.kept (t' := s1.toks) fun b ob q => Heap.get?_push_of_some _ q
  have fin : wpAny (model X.prog X.w) X.A (pyIter (.ref s1.heap.objs.size)) (PIE X pins σ (.Tuple elts kk tpos) R) X.xe { s1 with heap := s1.heap.push { cls := .type "dict_items", data := .fields #[.ref a] } } := by
    refine wpAny_pyIter_items (d := a) (knd := mixKind X.prog X.w) ⟨_, Heap.get?_push_size _ rfl, rfl, rfl⟩ (hm.push _) (pi_one (tk := s1.toks) I2 _ (turn_itemsP _ D h0) ⟨.none, .none, ?_⟩ q)
    rw [hl]
    exact Heap.get?_push_size _ rfl
  show wpAny _ _ (callWith cpos (.builtin "dict.items") [.ref a] [] []) _ X.xe s1
  exact method_meetsIn F.slot_dict_items F.entry_dict_items rfl (PySem.evalArgs_none ⟨rfl, hm.dictOf.typeIs, F.args_dict_items_1 _, _, meets_dict_items (mixKind X.prog X.w) a D.low, ⟨vs, hm.dictOf⟩, fin⟩)
end
section
variable {K : PySem.W.Frag} {γ : Hp} {α : List Addr} {F H : Hp} {μ : List Ob} {kvs : List (Key × V)} {xs : List D}
theorem walk_keysP : WalkD K α F (ItkP kvs) ((kvs.map (·.1)).map Key.d) := fun i γ α' F' H μ p e w => by
  refine ⟨fun d hd => ?_, fun hi => ?_⟩
  · rw [List.getElem?_map, List.getElem?_map] at hd
    cases hk : kvs[i]? with
    | none => rw [hk] at hd; cases hd
    | some kv =>
      rw [hk] at hd
      cases hd
      refine ⟨(List.getElem?_eq_some_iff.mp hk).1, fun x H' ⟨e1, k, v, e2, e3⟩ => ?_⟩
      rw [hk] at e2
      cases e2
      subst e1 e3
      exact ⟨F', Same.refl F', w, key_is⟩
  · rw [List.length_map, List.length_map] at hi
    exact Nat.le_of_eq hi.symm
/-- the pairs as data -/
def pairsP (ks : List Key) (xs : List D) : List D := List.zipWith (fun k x => D.tup [Key.d k, x]) ks xs
theorem walk_itemsP (l : ∀ α F, IsL K α F (kvs.map (·.2)) xs) : WalkD K α F (ItiP kvs) (pairsP (kvs.map (·.1)) xs) := fun i γ α' F' H μ p e w => by
  have hl : kvs.length = xs.length := by
    have := (l α F).length
    rw [List.length_map] at this
    exact this
  refine ⟨fun d hd => ?_, fun hi => ?_⟩
  · unfold pairsP at hd
    rw [List.getElem?_zipWith, List.getElem?_map] at hd
    cases hk : kvs[i]? with
    | none => rw [hk] at hd; cases hd
    | some kv =>
      rw [hk] at hd
      cases hx : xs[i]? with
      | none => rw [hx] at hd; cases hd
      | some x =>
        rw [hx] at hd
        cases hd
        refine ⟨(List.getElem?_eq_some_iff.mp hk).1, fun y H' ⟨T, k, v, e2, e3, e4, e5⟩ => ?_⟩
        rw [hk] at e2
        cases e2
        subst e3 e5
        have ft : F' T = none := w.sub.free e4
        obtain ⟨u, hu, iu⟩ := (l α' (upd F' T (.tup [kV k, v]))).get (i := i) (d := x) hx
        rw [List.getElem?_map, hk] at hu
        cases hu
        exact ⟨_, same_new ft, w.lay e4, .tup (.inl (.inl upd_same)) (.cons key_is (.cons iu .nil))⟩
  · unfold pairsP at hi
    rw [List.length_zipWith, List.length_map] at hi
    show kvs.length ≤ i
    omega
end
def rP (a : Addr) (ds : List D) (f : RE) : RA := fun δ μ => (f δ μ).bind fun d μ1 => match d with
  | .vv (.ref b) => if b = a then .ok ds μ1 else .bad
  | _ => .bad
section
variable {X : Cx} {W : WX} {tg e : Expr} {f : RE} {apos cpos : Pos} {a : Addr} {kvs : List (Key × V)} {xs : List D}
theorem tD_P {K : PySem.W.Frag} {ds : List D} {J : It} (hw : ∀ α F, WalkD K α F J ds) (σ : St) (H : Hp) (R : It → Hp → Prop) : tDI K W (rP a ds f) σ H R → tD K W f σ H fun x H1 => x = .ref a ∧ R J H1 := fun ⟨γ, α, F, μ, δ, w, s, q⟩ =>
  tD_go w s q fun d μ1 α1 F1 H1 v p1 e1 w1 s1 hv q1 => by
    split at q1
    · split at q1
      · rename_i b hb
        subst hb
        have e := Is.toVv hv
        subst e
        exact ⟨rfl, q1 α1 F1 H1 (List.prefix_refl _) (Same.refl F1) w1 J (hw _ _)⟩
      · exact q1.elim
    · exact q1.elim
theorem pdi_keysP (D : KDat X.K X.w a kvs) (he : PD X W e f) : PDI X W tg e (rP a ((kvs.map (·.1)).map Key.d) f) := pi_weak (pi_keysP D he) (tD_P fun _ _ => walk_keysP)
theorem pdi_itemsP {elts : List Expr} {kk : Nat} {tpos : Pos} (D : KDat X.K X.w a kvs) (l : ∀ α F, IsL X.K α F (kvs.map (·.2)) xs) (he : PD X W e f) (hbase : attributeBase e "items" X.env (eval e X.env) = eval e X.env := by rfl) (hline : (apos.endLine == cpos.line) = true := by rfl) :
    PDI X W (.Tuple elts kk tpos) (.Call (.Attribute e "items" apos) [] [] cpos) (rP a (pairsP (kvs.map (·.1)) xs) f) := pi_weak (pi_itemsP D he hbase hline) (tD_P fun _ _ => walk_itemsP l)
end
end DL

/-! The data layer, l: dict comprehensions whose dict stands still. -/
namespace DL
open PySem L2
def dcL (t : Tg) (vs : List Nat) (ft : RT) (fk fe : RE) : List D → Sl → List Ob → List Key → List D → R (List Key × List D)
  | [], _, μ, ks, xs => .ok (ks, xs) μ
  | x :: r, δ, μ, ks, xs => match t.set x (wipeD δ vs) with
    | none => .bad
    | some δ1 => match ft δ1 μ with
      | .ok false μ2 => dcL t vs ft fk fe r δ μ2 ks xs
      | .ok true μ2 => match fk δ1 μ2 with
        | .ok dk μ3 => match dk.key with
          | some k => match fe δ1 μ3 with
            | .ok d μ4 => if ks.length < 16777216 then dcL t vs ft fk fe r δ μ4 (putKs ks k) (putXs ks xs k d) else .bad
            | _ => .bad
          | none => .bad
        | _ => .bad
      | _ => .bad
def rDc (fi : RA) (t : Tg) (vs : List Nat) (ft : RT) (fk fe : RE) : RE := fun δ μ => (fi δ μ).bind fun ds μ1 => (dcL t vs ft fk fe ds δ μ1 [] []).bind fun p μ2 => .ok (.dct p.1 p.2) μ2
section
variable {K : PySem.W.Frag} {W : WX}
theorem tD_dc {fi : RA} {t : Tg} {vs : List Nat} {ft : RT} {fk fe : RE} (hv : ∀ i ∈ t.slots, i ∈ vs) (σ : St) (H : Hp) (Q : VK) (h : tD K W (rDc fi t vs ft fk fe) σ H Q) :
    tDc (tDI K W fi) (t.rd K) (tDT K W0 ft) (tD K W0 fk) (tD K W0 fe) vs σ H (fun v H1 => ∃ a kvs, v = .ref a ∧ H1 a = some (.dK kvs) ∧ ∀ o, Q v (upd H1 a (.frz o (.dK kvs)))) := by
  obtain ⟨γ, α, F, μ, δ, w, s, q⟩ := h
  refine ⟨γ, α, F, μ, δ, w, s, ?_⟩
  unfold rDc at q
  cases hf : fi δ μ with
  | bad => rw [hf] at q; exact q
  | exc x μ1 => rw [hf] at q; exact q
  | ok ds μ1 =>
    rw [hf] at q
    intro α1 F1 H1 p1 e1 w1 J hJ Dl hD
    have q1 := Fin.up p1 e1 q
    have s1 := s.mono p1 e1
    rw [R.ok_bind] at q1
    have gD : γ Dl = none := w1.gs.free hD
    refine ⟨fun i m H => m = ds.length - i ∧ i ≤ ds.length ∧ ∃ α' F' μ' xs kvs, Wd K (upd γ Dl (.dK kvs)) α' F' H μ' ∧ SlIs K α' F' σ δ ∧ WalkD K α' F' J ds ∧ IsL K α' F' (kvs.map (·.2)) xs ∧
        Fin K γ α' F' ((dcL t vs ft fk fe (ds.drop i) δ μ' (kvs.map (·.1)) xs).bind fun p μ2 => .ok (.dct p.1 p.2) μ2) (okD K Q) (fun c dd H' => W c dd σ H'),
      ⟨ds.length, by simp, Nat.zero_le _, α1, F1, μ1, [], [], w1.gnew hD, s1, hJ, .nil, by rw [List.drop_zero]; exact q1⟩, ?_⟩
    rintro i m H2 ⟨rfl, hi, α2, F2, μ2, acc, kvs, w2, s2, hJ2, hl, q2⟩
    obtain ⟨j1, j2⟩ := hJ2 i _ α2 F2 H2 μ2 (List.prefix_refl _) (Same.refl F2) w2
    by_cases hlt : i < ds.length
    · obtain ⟨hgo, hy⟩ := j1 ds[i] (List.getElem?_eq_getElem hlt)
      rw [List.drop_eq_getElem_cons hlt] at q2
      unfold dcL at q2
      right
      refine ⟨hgo, fun H' => i + 1 ≤ ds.length ∧ ∃ α' F' μ' xs kvs, Wd K (upd γ Dl (.dK kvs)) α' F' H' μ' ∧ SlIs K α' F' σ δ ∧ WalkD K α' F' J ds ∧ IsL K α' F' (kvs.map (·.2)) xs ∧
          Fin K γ α' F' ((dcL t vs ft fk fe (ds.drop (i + 1)) δ μ' (kvs.map (·.1)) xs).bind fun p μ2 => .ok (.dct p.1 p.2) μ2) (okD K Q) (fun c dd H' => W c dd σ H'),
        fun H' n => ⟨ds.length - (i + 1), by omega, rfl, n.1, n.2⟩, fun x H3 y => ?_⟩
      obtain ⟨F3, e3, w3, hx⟩ := hy x H3 y
      have q3 := Fin.up (List.prefix_refl _) e3 q2
      have s3 := s2.mono (List.prefix_refl _) e3
      cases ht : t.set ds[i] (wipeD δ vs) with
      | none => rw [ht] at q3; exact q3.elim
      | some δ3 =>
        rw [ht] at q3
        refine Tg.go w3 (s3.wipe vs) hx ht fun σ4 s4 hw4 _ => ⟨?_, ?_⟩
        · rw [hw4 vs hv]
          exact wipe_wipe σ vs
        · refine ⟨_, α2, F3, μ2, δ3, w3, s4, ?_⟩
          dsimp only at q3
          cases hft : ft δ3 μ2 with
          | bad => rw [hft] at q3; exact q3.elim
          | exc x μ4 => rw [hft] at q3; exact q3.elim
          | ok b μ4 =>
            rw [hft] at q3
            intro α4 F4 H4 p4 e4 w4
            have q4 := Fin.up p4 e4 q3
            cases b with
            | false =>
              exact iteF ⟨hlt, α4, F4, μ4, acc, kvs, w4, s3.mono p4 e4, hJ2.mono p4 (e3.trans e4), hl.mono p4 (e3.trans e4), q4⟩
            | true =>
              refine iteT ⟨_, α4, F4, μ4, δ3, w4, s4.mono p4 e4, ?_⟩
              dsimp only at q4
              cases hfk : fk δ3 μ4 with
              | bad => rw [hfk] at q4; exact q4.elim
              | exc x μ5 => rw [hfk] at q4; exact q4.elim
              | ok dk μ5 =>
                rw [hfk] at q4
                intro α5 F5 H5 p5 e5 w5 v hvk
                have q5 := Fin.up p5 e5 q4
                dsimp only at q5
                cases hk : dk.key with
                | none => rw [hk] at q5; exact q5.elim
                | some k =>
                  rw [hk] at q5
                  have ek := key_kV hvk hk
                  refine ⟨_, α5, F5, μ5, δ3, w5, (s4.mono p4 e4).mono p5 e5, ?_⟩
                  dsimp only at q5
                  cases hfe : fe δ3 μ5 with
                  | bad => rw [hfe] at q5; exact q5.elim
                  | exc x μ6 => rw [hfe] at q5; exact q5.elim
                  | ok z μ6 =>
                    rw [hfe] at q5
                    intro α6 F6 H6 p6 e6 w6 u huz
                    have q6 := Fin.up p6 e6 q5
                    dsimp only at q6
                    by_cases hz : (kvs.map (·.1)).length < 16777216
                    · rw [if_pos hz] at q6
                      rw [List.length_map] at hz
                      have hl6 := hl.mono (p4.trans (p5.trans p6)) (e3.trans (e4.trans (e5.trans e6)))
                      refine ⟨kvs, k, ek, w6.gs _ _ upd_same, by rw [sizeLine_eq]; exact hz, hlt, α6, F6, μ6, _, putK kvs k u, w6.gput gD, ((s3.mono p4 e4).mono p5 e5).mono p6 e6, hJ2.mono (p4.trans (p5.trans p6)) (e3.trans (e4.trans (e5.trans e6))), putK_vals hl6 huz, ?_⟩
                      rw [putK_keys]
                      exact q6
                    · rw [if_neg hz] at q6; exact q6.elim
    · have e : i = ds.length := by omega
      subst e
      rw [List.drop_length] at q2
      left
      refine ⟨j2 rfl, Dl, kvs, rfl, w2.gs _ _ upd_same, fun o => ?_⟩
      unfold dcL at q2
      have w3 := w2.gput (o' := .frz o (.dK kvs)) gD
      have fD : F2 Dl = none := w3.gf Dl (by rw [upd_same]; exact Option.some_ne_none _)
      have sn := same_new (o := .frz o (.dK kvs)) fD
      exact q2 α2 _ _ (List.prefix_refl _) sn (w3.gfrz gD) _ (.dct ⟨o, upd_same⟩ rfl (hl.mono (List.prefix_refl _) sn))
end
section
variable {X : Cx} {W : WX} {k : Nat}
theorem pd_dc {kx vx tg iter : Expr} {ifs : List Expr} {scope : Scope} {own : List (Str × Nat)} {pos : Pos} {fi : RA} {t : Tg} {ft : RT} {fk fe : RE} (g : Good X W k) (hi : PDI X W tg iter fi) (ok : BlkOk X.N X.env.scope scope own) (hv : ∀ i ∈ t.slots, i ∈ own.map (·.2))
    (hg : ∀ (s : Shared) (H : Hp) (C : Addr) (cl : List (Str × Addr)) (fp : List Addr), PDG (X.blk s H scope (compEnvC scope cl C X.env) fp) tg t)
    (ht : ∀ (s : Shared) (H : Hp) (C : Addr) (cl : List (Str × Addr)) (fp : List Addr), Good (X.blk s H scope (compEnvC scope cl C X.env) fp) W0 k → PDTs (X.blk s H scope (compEnvC scope cl C X.env) fp) W0 ifs ft)
    (hk : ∀ (s : Shared) (H : Hp) (C : Addr) (cl : List (Str × Addr)) (fp : List Addr), Good (X.blk s H scope (compEnvC scope cl C X.env) fp) W0 k → PD (X.blk s H scope (compEnvC scope cl C X.env) fp) W0 kx fk)
    (he : ∀ (s : Shared) (H : Hp) (C : Addr) (cl : List (Str × Addr)) (fp : List Addr), Good (X.blk s H scope (compEnvC scope cl C X.env) fp) W0 k → PD (X.blk s H scope (compEnvC scope cl C X.env) fp) W0 vx fe)
    (hs : ∀ x, foldedSetIterable iter X.env x = pure x := by intro _; rfl) : PD X W (.DictComp kx vx [⟨tg, iter, ifs, 0⟩] scope pos) (rDc fi t (own.map (·.2)) ft fk fe) :=
  pe_weak (pe_frz (pe_dc g.calm g.nd hi ok hg (fun s H C cl fp => ht s H C cl fp (g.blk s H scope _ fp)) (fun s H C cl fp => hk s H C cl fp (g.blk s H scope _ fp)) (fun s H C cl fp => he s H C cl fp (g.blk s H scope _ fp)) hs)) fun σ H Q h => tD_dc (ft := ft) (fk := fk) (fe := fe) hv σ H Q h
end
end DL

/-! The data layer, m: defs and classes of the text as facts; short rules for printed derivations. -/
namespace DL
open PySem L2

/-- a def of the text stands under its name -/
structure Df (K : PySem.W.Frag) (mg : Str → Option Value) (x : Str) (st : Stmt) (ps : List Str) : Prop where
  ex : ∃ (f : Addr) (fd : FuncData), Fun K x x st f fd ∧ Binds K fd ps [] ∧ mg x = some (.ref f) ∧ PySem.W.keepIn K (.ref f) = true
/-- a class of the text with its own __init__ -/
structure Dc (K : PySem.W.Frag) (mg : Str → Option Value) (x qi : Str) (st : Stmt) (C : Addr) (ps : List Str) : Prop where
  ex : ∃ (f : Addr) (fd : FuncData), Fun K "__init__" qi st f fd ∧ Binds K fd ps [] ∧ mg x = some (.ref C) ∧ Mk K C f
/-- .. its own == -/
structure De (K : PySem.W.Frag) (qe : Str) (st : Stmt) (C : Addr) (ps : List Str) : Prop where
  ex : ∃ (f : Addr) (fd : FuncData), Fun K "__eq__" qe st f fd ∧ Binds K fd ps [] ∧ PySem.W.findIn K (.ref C) "__eq__" = some (some (.ref f)) ∧ PySem.W.isFn K (.ref f) = true
section
variable {P : Program} {w : World} {K : PySem.W.Frag} {mg : Str → Option Value} {base : Heap} {x qual : Str} {st : Stmt} {ps N : List Str} {k : Nat} {ct : Ct} {fb : RS} {C : Addr}
abbrev Body (P : Program) (w : World) (K : PySem.W.Frag) (mg : Str → Option Value) (base : Heap) (qual : Str) (st : Stmt) (N : List Str) (k : Nat) (fb : RS) : Prop :=
  ∀ (f : Addr) (cdv : Value) (A : Around) (outer : List Env) (s : Shared) (H : Hp) (E : XK), Good (cxOf (L2.CX P w) P w K mg base N qual (defScope st) f cdv A outer s H E) (fun c d _ H' => E c d H') k → PSDs (cxOf (L2.CX P w) P w K mg base N qual (defScope st) f cdv A outer s H E) (fun c d _ H' => E c d H') (defBody st) fb
def Covs (N ps : List Str) (ct : Ct) (fb : RS) : Prop := ∀ ds μ, ds.length = ps.length → Cov μ (ct ds μ) (fb (ds.map some ++ List.replicate (N.length - ps.length) none) μ)
theorem Df.cal (d : Df K mg x st ps) (S : FnScope N ps (defScope st)) (b : Body P w K mg base x st N k fb) (c : Covs N ps ct fb) (hnp : ps.length ≤ N.length := by decide) : Cal P w K mg base (k + 1) x ps.length ct := by
  obtain ⟨f, fd, F, hb, hm, kp⟩ := d.ex
  exact ⟨f, fd, ps, rfl, fn_cal F S hnp (b f) c, hm, kp, hb⟩
theorem Dc.cml {qi : Str} {n : Nat} (d : Dc K mg x qi st C ps) (S : FnScope N ps (defScope st)) (b : Body P w K mg base qi st N k fb) (c : Covs N ps ct fb) (hn : ps.length = n + 1 := by rfl) (hnp : ps.length ≤ N.length := by decide) : Cml P w K mg base (k + 1) x C n ct := by
  obtain ⟨f, fd, F, hb, hm, M⟩ := d.ex
  exact ⟨f, fd, ps, hn, M, by rw [← hn]; exact fn_cal F S hnp (b f) c, hm, hb⟩
theorem De.ceq {qe : Str} (d : De K qe st C ps) (S : FnScope N ps (defScope st)) (b : Body P w K mg base qe st N k fb) (c : Covs N ps ct fb) (hn : ps.length = 2 := by rfl) (hnp : ps.length ≤ N.length := by decide) : Ceq P w K mg base (k + 1) C ct := by
  obtain ⟨f, fd, F, hb, h1, h2⟩ := d.ex
  exact ⟨f, fd, ps, hn, by rw [← hn]; exact fn_cal F S hnp (b f) c, h1, h2, hb⟩
/-- the contract that is the body itself -/
def ctOf (m : Nat) (fb : RS) : Ct := fun ds μ => match fb (ds.map some ++ List.replicate m none) μ with
  | .rt d μ1 => .ok d μ1
  | .nx _ μ1 => .ok .non μ1
  | .exc x _ μ1 => .exc x μ1
  | _ => .bad
theorem covs_of : Covs N ps (ctOf (N.length - ps.length) fb) fb := fun ds μ hl => by
  unfold ctOf
  cases h : fb (ds.map some ++ List.replicate (N.length - ps.length) none) μ with
  | rt d μ1 => exact ⟨rfl, .inl rfl⟩
  | nx δ μ1 => exact ⟨rfl, .inl rfl⟩
  | exc x δ μ1 => exact ⟨rfl, .inl rfl⟩
  | _ => trivial
end

/-! ### a comprehension's block, by computation -/
def blkOkB (N : List Str) (sc scope : Scope) (own : List (Str × Nat)) : Bool :=
  decide (scope.kind = .function) && (scope.names.all (fun y => decide (scope.names.lookup y.1 = some y.2)) && (own.all (fun p => decide (N[p.2]? = some p.1)) &&
    (scope.names.all (fun y => !decide (y.2 = .free) || (decide (sc.names.lookup y.1 = some .cell) || decide (sc.names.lookup y.1 = some .free))) &&
      scope.names.all (fun y => !(decide (y.2 = .local) || decide (y.2 = .cell)) || (decide (y.1 ∈ own.map (·.1)) || decide (y.1 ∉ N))))))
theorem blkOk_of {N : List Str} {sc scope : Scope} {own : List (Str × Nat)} (h : blkOkB N sc scope own = true) : BlkOk N sc scope own := by
  unfold blkOkB at h
  simp only [Bool.and_eq_true, List.all_eq_true, decide_eq_true_eq, Bool.or_eq_true, Bool.not_eq_true', decide_eq_false_iff_not] at h
  obtain ⟨h1, h2, h3, h4, h5⟩ := h
  refine ⟨h1, h2, h3, fun y hy hf => ?_, fun y hy hf => ?_⟩
  · rcases h4 y hy with q | q
    · exact absurd hf q
    · exact q
  · rcases h5 y hy with q | q
    · simp only [Bool.or_eq_false_iff, decide_eq_false_iff_not] at q
      rcases hf with hf | hf
      · exact absurd hf q.1
      · exact absurd hf q.2
    · exact q

section
variable {X : Cx} {W : WX} {a b c e : Expr} {es : List Expr} {fa fb fc f : RE} {ft fu : RT} {fs : RA} {pos p : Pos} {k : Nat}
/-! ### short forms -/
theorem pd_eq (g : Good X W k) (ha : PD X W a fa) (hb : PD X W b fb) (hm : behindInMarks .Eq b = false := by rfl) : PD X W (.Compare a [.Eq] [b] pos) (rBin eqD fa fb) := pd_cmp (op_eqD (by have := g.hu; omega)) op2_eq hm ha hb
theorem pd_ne (g : Good X W k) (ha : PD X W a fa) (hb : PD X W b fb) (hm : behindInMarks .NotEq b = false := by rfl) : PD X W (.Compare a [.NotEq] [b] pos) (rBin neD fa fb) := pd_cmp (op_neD (by have := g.hu; omega)) op2_ne hm ha hb
theorem pdt_eq (g : Good X W k) (ha : PD X W a fa) (hb : PD X W b fb) (hm : behindInMarks .Eq b = false := by rfl) : PDT X W (.Compare a [.Eq] [b] pos) (rT (rBin eqD fa fb)) := pdt_cmp (op_eqD (by have := g.hu; omega)) op2_eq hm ha hb
theorem pdt_ne (g : Good X W k) (ha : PD X W a fa) (hb : PD X W b fb) (hm : behindInMarks .NotEq b = false := by rfl) : PDT X W (.Compare a [.NotEq] [b] pos) (rT (rBin neD fa fb)) := pdt_cmp (op_neD (by have := g.hu; omega)) op2_ne hm ha hb
theorem pdt_lt (ha : PD X W a fa) (hb : PD X W b fb) (hm : behindInMarks .Lt b = false := by rfl) : PDT X W (.Compare a [.Lt] [b] pos) (rT (rBin ltD fa fb)) := pdt_cmp op_lt op2_intB hm ha hb
theorem pdt_le (ha : PD X W a fa) (hb : PD X W b fb) (hm : behindInMarks .LtE b = false := by rfl) : PDT X W (.Compare a [.LtE] [b] pos) (rT (rBin leD fa fb)) := pdt_cmp op_le op2_intB hm ha hb
theorem pdt_gt (ha : PD X W a fa) (hb : PD X W b fb) (hm : behindInMarks .Gt b = false := by rfl) : PDT X W (.Compare a [.Gt] [b] pos) (rT (rBin gtD fa fb)) := pdt_cmp op_gt op2_intB hm ha hb
theorem pdt_ge (ha : PD X W a fa) (hb : PD X W b fb) (hm : behindInMarks .GtE b = false := by rfl) : PDT X W (.Compare a [.GtE] [b] pos) (rT (rBin geD fa fb)) := pdt_cmp op_ge op2_intB hm ha hb
theorem pd_lt (ha : PD X W a fa) (hb : PD X W b fb) (hm : behindInMarks .Lt b = false := by rfl) : PD X W (.Compare a [.Lt] [b] pos) (rBin ltD fa fb) := pd_cmp op_lt op2_intB hm ha hb
theorem pd_le (ha : PD X W a fa) (hb : PD X W b fb) (hm : behindInMarks .LtE b = false := by rfl) : PD X W (.Compare a [.LtE] [b] pos) (rBin leD fa fb) := pd_cmp op_le op2_intB hm ha hb
theorem pd_gt (ha : PD X W a fa) (hb : PD X W b fb) (hm : behindInMarks .Gt b = false := by rfl) : PD X W (.Compare a [.Gt] [b] pos) (rBin gtD fa fb) := pd_cmp op_gt op2_intB hm ha hb
theorem pd_ge (ha : PD X W a fa) (hb : PD X W b fb) (hm : behindInMarks .GtE b = false := by rfl) : PD X W (.Compare a [.GtE] [b] pos) (rBin geD fa fb) := pd_cmp op_ge op2_intB hm ha hb
theorem pdt_is (ha : PD X W a fa) (hb : PD X W b fb) (hm : behindInMarks .Is b = false := by rfl) : PDT X W (.Compare a [.Is] [b] pos) (rT (rBin isN fa fb)) := pdt_cmp op_isN op2_isN hm ha hb
theorem pd_le2 (ha : PD X W a fa) (hb : PD X W b fb) (hc : PD X W c fc) (hm : lastMarks [.LtE, .LtE] [b, c] = false := by with_unfolding_all rfl) : PD X W (.Compare a [.LtE, .LtE] [b, c] pos) (rChain leD leD fa fb fc) := pd_chain op_le op_le op2_intB op2_intB intB_noexc ha hb hc hm
theorem pdt_le2 (ha : PD X W a fa) (hb : PD X W b fb) (hc : PD X W c fc) (hm : lastMarks [.LtE, .LtE] [b, c] = false := by with_unfolding_all rfl) : PDT X W (.Compare a [.LtE, .LtE] [b, c] pos) (rT (rChain leD leD fa fb fc)) := pdt_chain op_le op_le op2_intB op2_intB intB_noexc ha hb hc hm
theorem pd_add (ha : PD X W a fa) (hb : PD X W b fb) : PD X W (.BinOp a .Add b pos) (rBin addD fa fb) := pd_bin op_addA op2_add ha hb
theorem pd_sub (ha : PD X W a fa) (hb : PD X W b fb) : PD X W (.BinOp a .Sub b pos) (rBin subD fa fb) := pd_bin op_sub op2_intI0 ha hb
theorem pd_mul (ha : PD X W a fa) (hb : PD X W b fb) : PD X W (.BinOp a .Mult b pos) (rBin mulD fa fb) := pd_bin op_mul op2_mul ha hb
theorem pd_fdiv (ha : PD X W a fa) (hb : PD X W b fb) : PD X W (.BinOp a .FloorDiv b pos) (rBin divD fa fb) := pd_bin op_fdiv op2_div ha hb
theorem pd_mod (ha : PD X W a fa) (hb : PD X W b fb) : PD X W (.BinOp a .Mod b pos) (rBin modD fa fb) := pd_bin op_mod op2_mod ha hb
theorem pd_pow (ha : PD X W a fa) (hb : PD X W b fb) : PD X W (.BinOp a .Pow b pos) (rBin powD fa fb) := pd_bin op_pow op2_pow ha hb
theorem pd_len (hm : X.mg "len" = none) (ha : PDA X W [e] fs) (hg : Gl X "len" := by rfl) (he : starEach [e] X.env = (false, eval e X.env) :: starEach [] X.env := by rfl) : PD X W (.Call (.Name "len" p) [e] [] pos) (rCB lenD fs) :=
  pd_callB call_lenA opn_len PySem.boot_len hm ha hg (by decide) (by decide) he rfl
theorem pd_isT (T : String) (hm : X.mg "isinstance" = none) (ha : PDA X W [a, b] fs) (hg : Gl X "isinstance" := by rfl) (he : starEach [a, b] X.env = (false, eval a X.env) :: starEach [b] X.env := by rfl) (hpl : (backTo pos (starEach [b] X.env)).any (·.1) = false := by rfl) :
    PD X W (.Call (.Name "isinstance" p) [a, b] [] pos) (rCB (isiD (.ty T) (isT T)) fs) :=
  pd_callB call_isi (opn_isi isiQ_ty) PyProof.Rows.boot_isinstance hm ha hg (by decide) (by decide) he hpl
theorem pd_intC (hm : X.mg "int" = none) (ha : PDA X W [e] fs) (hg : Gl X "int" := by rfl) (he : starEach [e] X.env = (false, eval e X.env) :: starEach [] X.env := by rfl) : PD X W (.Call (.Name "int" p) [e] [] pos) (rCB intD fs) :=
  pd_callT call_intA opn_int PyProof.Rows.boot_int hm ha hg (by decide) (by decide) he rfl
theorem pd_strC (hm : X.mg "str" = none) (ha : PDA X W [e] fs) (hg : Gl X "str" := by rfl) (he : starEach [e] X.env = (false, eval e X.env) :: starEach [] X.env := by rfl) : PD X W (.Call (.Name "str" p) [e] [] pos) (rCB strD fs) :=
  pd_callT call_strA opn_str PyProof.Rows.boot_str hm ha hg (by decide) (by decide) he rfl
theorem pd_listC (m : Bool) (g : Good X W k) (hm : X.mg "list" = none) (ha : PDA X W [e] fs) (hg : Gl X "list" := by rfl) (he : starEach [e] X.env = (false, eval e X.env) :: starEach [] X.env := by rfl) : PD X W (.Call (.Name "list" p) [e] [] pos) (rCB (listD m) fs) :=
  pd_callT (call_listA g.calm) (opn_list m) PyProof.Rows.boot_list hm ha hg (by decide) (by decide) he rfl
theorem pd_tupC (hm : X.mg "tuple" = none) (ha : PDA X W [e] fs) (hg : Gl X "tuple" := by rfl) (he : starEach [e] X.env = (false, eval e X.env) :: starEach [] X.env := by rfl) : PD X W (.Call (.Name "tuple" p) [e] [] pos) (rCB tupD fs) :=
  pd_callT call_tuple_of opn_tup PyProof.Rows.boot_tuple hm ha hg (by decide) (by decide) he rfl
theorem pd_max2 (g : Good X W k) (hm : X.mg "max" = none) (ha : PDA X W [a, b] fs) (hg : Gl X "max" := by rfl) (he : starEach [a, b] X.env = (false, eval a X.env) :: starEach [b] X.env := by rfl) (hpl : (backTo pos (starEach [b] X.env)).any (·.1) = false := by rfl) : PD X W (.Call (.Name "max" p) [a, b] [] pos) (rCB max2D fs) :=
  pd_callB (call_max2 g.calm) opn_max2 PyProof.Rows.boot_max hm ha hg (by decide) (by decide) he hpl
theorem pd_all (g : Good X W k) (hm : X.mg "all" = none) (ha : PDA X W [e] fs) (hg : Gl X "all" := by rfl) (he : starEach [e] X.env = (false, eval e X.env) :: starEach [] X.env := by rfl) : PD X W (.Call (.Name "all" p) [e] [] pos) (rCB (allD false) fs) :=
  pd_callB (cr_all g.calm) opn_all PyProof.Rows.boot_all hm ha hg (by decide) (by decide) he rfl
theorem pd_any (g : Good X W k) (hm : X.mg "any" = none) (ha : PDA X W [e] fs) (hg : Gl X "any" := by rfl) (he : starEach [e] X.env = (false, eval e X.env) :: starEach [] X.env := by rfl) : PD X W (.Call (.Name "any" p) [e] [] pos) (rCB (allD true) fs) :=
  pd_callB (cr_any g.calm) opn_any PyProof.Rows.boot_any hm ha hg (by decide) (by decide) he rfl
theorem pd_lenP {ad : Addr} {kvs : List (Key × V)} (D : KDat X.K X.w ad kvs) (hm : X.mg "len" = none) (ha : PDA X W [e] fs) (hg : Gl X "len" := by rfl) (he : starEach [e] X.env = (false, eval e X.env) :: starEach [] X.env := by rfl) : PD X W (.Call (.Name "len" p) [e] [] pos) (rCB (onP ad fun μ => .ok (.int (kvs.length : Nat)) μ) fs) :=
  pd_callB (call_lenP D) opn_lenP PySem.boot_len hm ha hg (by decide) (by decide) he rfl
theorem pd_listP {ad : Addr} {kvs : List (Key × V)} (D : KDat X.K X.w ad kvs) (g : Good X W k) (hm : X.mg "list" = none) (ha : PDA X W [e] fs) (hg : Gl X "list" := by rfl) (he : starEach [e] X.env = (false, eval e X.env) :: starEach [] X.env := by rfl) : PD X W (.Call (.Name "list" p) [e] [] pos) (rCB (onP ad fun μ => .ok (.lst ((kvs.map (·.1)).map Key.d)) μ) fs) :=
  pd_callT (call_listP g.calm D) opn_listP PyProof.Rows.boot_list hm ha hg (by decide) (by decide) he rfl
/-- a, b, c = three values -/
def rPar3 (i j l : Nat) (fs : RA) : RS := fun δ μ => (fs δ μ).st δ fun ds μ1 => match ds with
  | [d, e, h] => .nx (((δ.set i (some d)).set j (some e)).set l (some h)) μ1
  | _ => .bad
theorem psd_par3 (i j l : Nat) {x y z : Str} {px py pz pt pt2 : Pos} {kt k2 : Nat} (hc : X.calm = true) (hN : X.N.Nodup) (ha : PDA X W [a, b, c] fs) (hij : i ≠ j := by decide) (hil : i ≠ l := by decide) (hjl : j ≠ l := by decide) (hi : X.N[i]? = some x := by rfl) (hj : X.N[j]? = some y := by rfl) (hl : X.N[l]? = some z := by rfl)
    (hx : X.env.scope.names.lookup x = some .local := by rfl) (hy : X.env.scope.names.lookup y = some .local := by rfl) (hz : X.env.scope.names.lookup z = some .local := by rfl)
    (hw : swappedStores [.Tuple [.Name x px, .Name y py, .Name z pz] kt pt] (.Tuple [a, b, c] k2 pt2) X.env = pure (some [x, y, z]) := by rfl)
    (hs : swapsWithSole [.Tuple [.Name x px, .Name y py, .Name z pz] kt pt] (.Tuple [a, b, c] k2 pt2) pos.line X.env = pure false := by rfl) :
    PSD X W (.Assign [.Tuple [.Name x px, .Name y py, .Name z pz] kt pt] (.Tuple [a, b, c] k2 pt2) pos) (rPar3 i j l fs) :=
  ps_weak (ps_par3 hc hN hi hj hl hij hil hjl hx hy hz ha hw hs) fun D σ H ⟨γ, α, F, μ, δ, w, s, q⟩ => tDA_st w s q fun ds μ1 α1 F1 H1 vs p1 e1 w1 s1 hv q1 => by
    match ds, hv, q1 with
    | [d, e, h], .cons h1 (.cons h2 (.cons h3 .nil)), q1 => exact ⟨_, _, _, rfl, q1.nx_ w1 (((s1.set i h1).set j h2).set l h3)⟩
    | [], _, q1 => exact q1.elim
    | [_], _, q1 => exact q1.elim
    | [_, _], _, q1 => exact q1.elim
    | _ :: _ :: _ :: _ :: _, _, q1 => exact q1.elim
end

/-! ### isinstance(x, C), C a class of the text -/
def isK (C : Addr) (d : D) : Option Bool := match d with
  | .ins C' _ _ => if C' = C then some true else none
  | _ => none
structure KisC (K : PySem.W.Frag) (C : Addr) : Prop where
  cl : Cls K C
  ha : PySem.W.findIn K (.ref C) "__class__" = some (some (.builtin "object.__class__"))
  hn : PySem.W.specialIn K (.builtin "object.__class__") "__get__" = some (some (.builtin "getset_descriptor.__get__"))
  ht : PySem.W.takesIn K (.builtin "object.__class__") = some true
  hm : PySem.W.mroIn K C (.type "object") = some true
theorem isiQ_K {K : PySem.W.Frag} {C : Addr} (c : KisC K C) : IsiQ K (.ref C) (isK C) := fun α F H v d b h e => by
  unfold isK at e
  cases d with
  | ins C' fs xs =>
    simp only at e
    split at e
    · rename_i hC
      subst hC
      cases e
      obtain ⟨a, dx, fv, rfl, h1, _⟩ := h
      refine ⟨_, _, .own C', .base (.ins h1 c.cl c.ha c.hn c.ht c.hm), ?_⟩
      unfold PySem.W.kitOne
      rw [if_pos (beq_self_eq_true _)]
    · cases e
  | _ => cases e
theorem pd_isK {X : Cx} {W : WX} {a b : Expr} {fs : RA} {pos p : Pos} {C : Addr} {q : D → Option Bool} (hm : X.mg "isinstance" = none) (hq : IsiQ X.K (.ref C) q) (ha : PDA X W [a, b] fs) (hg : Gl X "isinstance" := by rfl) (he : starEach [a, b] X.env = (false, eval a X.env) :: starEach [b] X.env := by rfl) (hpl : (backTo pos (starEach [b] X.env)).any (·.1) = false := by rfl) :
    PD X W (.Call (.Name "isinstance" p) [a, b] [] pos) (rCB (isiD (.ref C) q) fs) :=
  pd_callB call_isi (opn_isi hq) PyProof.Rows.boot_isinstance hm ha hg (by decide) (by decide) he hpl
end DL

/-! The data layer, n: the law's own promise. -/
namespace DL
open PySem L2
def spLaw (K : PySem.W.Frag) : Sp := fun vs H Q _ => ∃ (a : Addr) (ns : List Int), vs = [.ref a] ∧ SqL K H a (ns.map V.int) ∧ ns.length ≤ 63 ∧ ∀ H', Q (.bl true) H'
theorem wd_all {K : PySem.W.Frag} {H : Hp} : Wd K (fun _ => none) [] H H [] :=
  ⟨rfl, fun i j a h => by simp at h, Same.refl H, fun k a h => by simp at h, fun k a o h => by simp at h, fun k a o h => by simp at h, fun b o h => (nomatch h), fun a h => absurd rfl h, fun k a h => by simp at h⟩
theorem spd_of {K : PySem.W.Frag} {P : Program} {w : World} {mg : Str → Option Value} {base : Heap} {k : Nat} {f : Addr} {fd : FuncData} {ct : Ct} {ps : List Str} (F : FnOk P w K mg base (L2.CX P w) k f fd ps (spD K 1 ct))
    (m : ∀ ns : List Int, ns.length ≤ 63 → ∃ μ, ct [.frl (ns.map D.int)] [] = .ok (.bl true) μ) : FnOk P w K mg base (L2.CX P w) k f fd ps (spLaw K) :=
  F.imp fun vs H Q E ⟨a, ns, e, hS, hl, q⟩ => by
    subst e
    obtain ⟨μ, hm⟩ := m ns hl
    refine ⟨rfl, fun _ => none, [], H, [], _, wd_all, .cons (.frl hS (.ints ns)) .nil, ?_⟩
    rw [hm]
    intro α' F' H' p e w v hv
    cases hv
    exact q H'
end DL

/-! The data layer, o: == of data with dicts in it, where the answer is True. -/
namespace DL
open PySem L2
def alike (q : D → D → Bool) : List D → List D → Bool
  | [], [] => true
  | x :: xs, y :: ys => q x y && alike q xs ys
  | _, _ => false
def alikeK (q : D → D → Bool) (ls : List Key) (ys : List D) : List Key → List D → Bool
  | [], [] => true
  | k :: ks, x :: xs => (match lookD ls ys k with
    | some y => q x y
    | none => false) && alikeK q ls ys ks xs
  | _, _ => false
/-- equal, of nesting below n -/
def eqN : Nat → D → D → Bool
  | _, .non, .non => true
  | _, .bl a, .bl b => a == b
  | _, .int a, .int b => decide (a = b)
  | _, .str a, .str b => decide (a = b)
  | n + 1, .tup xs, .tup ys => alike (eqN n) xs ys
  | n + 1, .lst xs, .lst ys => alike (eqN n) xs ys
  | n + 1, .dct ks xs, .dct ls ys => decide (ks.length = ls.length) && alikeK (eqN n) ls ys ks xs
  | _, _, _ => false
section
variable {X : Cx} {pins : List (Addr × Obj)} {σ : St} {H : Hp} {s : Shared} {γ : Hp} {α : List Addr} {F : Hp} {μ : List Ob}
def Rn (K : PySem.W.Frag) (α : List Addr) (F : Hp) (n : Nat) (x y : V) : Prop := ∃ d e, Is K α F x d ∧ Is K α F y e ∧ eqN n d e = true
theorem pair_of {K : PySem.W.Frag} {n : Nat} : ∀ {vs us : List V} {xs ys : List D}, IsL K α F vs xs → IsL K α F us ys → alike (eqN n) xs ys = true → Paired (Rn K α F n) vs us
  | _, _, [], [], .nil, .nil, _ => .nil
  | _, _, x :: xs, y :: ys, .cons h t, .cons h' t', e => by
    rw [alike, Bool.and_eq_true] at e
    exact .cons ⟨x, y, h, h', e.1⟩ (pair_of t t' e.2)
  | _, _, [], _ :: _, _, _, e => by simp [alike] at e
  | _, _, _ :: _, [], _, _, e => by simp [alike] at e
theorem pairK_of {K : PySem.W.Frag} {n : Nat} {ls : List (Key × V)} {ys : List D} (l' : IsL K α F (ls.map (·.2)) ys) : ∀ {ks : List (Key × V)} {xs : List D}, IsL K α F (ks.map (·.2)) xs → alikeK (eqN n) (ls.map (·.1)) ys (ks.map (·.1)) xs = true →
    ∀ p ∈ ks, ∃ u, valV ls p.1 = some u ∧ Rn K α F n p.2 u
  | [], _, _, _ => fun p h => by cases h
  | (k, v) :: r, x :: xs, .cons h t, e => by
    rw [List.map_cons, alikeK, Bool.and_eq_true] at e
    intro p hp
    rcases List.mem_cons.mp hp with rfl | hp
    · cases hk : lookD (ls.map (·.1)) ys k with
      | none => rw [hk] at e; exact absurd e.1 Bool.false_ne_true
      | some y =>
        rw [hk] at e
        obtain ⟨u, h1, h2⟩ := look_val' l' hk
        exact ⟨u, h1, x, y, h, h2, e.1⟩
    · exact pairK_of l' t e.2 p hp
theorem eqN_cases {n : Nat} {d e : D} (q : eqN n d e = true) : (d = e ∧ (d = .non ∨ (∃ a, d = .bl a) ∨ (∃ a, d = .int a) ∨ ∃ a, d = .str a)) ∨ (∃ m xs ys, n = m + 1 ∧ d = .tup xs ∧ e = .tup ys ∧ alike (eqN m) xs ys = true) ∨
    (∃ m xs ys, n = m + 1 ∧ d = .lst xs ∧ e = .lst ys ∧ alike (eqN m) xs ys = true) ∨ ∃ m ks xs ls ys, n = m + 1 ∧ d = .dct ks xs ∧ e = .dct ls ys ∧ ks.length = ls.length ∧ alikeK (eqN m) ls ys ks xs = true := by
  cases n <;> cases d <;> cases e <;> simp_all [eqN]
  all_goals exact ⟨_, _, ⟨rfl, rfl⟩, _, _, ⟨rfl, rfl⟩, q⟩
theorem eqN_run (w : Wd X.K γ α F H μ) (I : Inv X pins σ H s) : ∀ (n : Nat) (A : Around), A.units + n < cLine → ∀ (x y : V) (v u : Value), Rn X.K α F n x y → RelV x v → RelV y u → SeqAt.EqP X.prog X.w A s v u true := by
    intro n
    induction n using Nat.strongRecOn with
    | _ n ih =>
    intro A hu x y v u ⟨d, e, hd, he, q⟩ rx ry
    have flat : ∀ (q : x = y) (f : flatB x = true), SeqAt.EqP X.prog X.w A s v u true := fun q f => by subst q; exact (eqAt_same rx ry f).eqP
    have refs : ∀ {a b : Addr}, x = .ref a → y = .ref b → (∀ (E Q : Value → Shared → Prop), Q (.bool true) s → wpAny (model X.prog X.w) A (richCompare .Eq (.ref a) (.ref b)) Q E s) → SeqAt.EqP X.prog X.w A s v u true := fun {a b} e1 e2 step => by
      subst e1 e2
      cases (show v = Value.ref a from rx)
      cases (show u = Value.ref b from ry)
      by_cases e : a = b
      · subst e
        exact (SeqAt.EqAt.same _).eqP
      · exact SeqAt.eqP_refs e step
    rcases eqN_cases q with ⟨rfl, h⟩ | ⟨n, xs, ys, rfl, rfl, rfl, q2⟩ | ⟨n, xs, ys, rfl, rfl, rfl, q2⟩ | ⟨n, ks, xs, ls, ys, rfl, rfl, rfl, q2⟩
    · rcases h with rfl | ⟨a, rfl⟩ | ⟨a, rfl⟩ | ⟨a, rfl⟩ <;> (cases hd; cases he; exact flat rfl rfl)
    ·
      cases hd with
      | tup h1 l1 =>
        cases he with
        | tup h2 l2 =>
          rename_i a vs b us
          refine refs rfl rfl fun E Q hQ => ?_
          have hp := pair_of l1 l2 q2
          obtain ⟨its, r, e, z⟩ := I.tuple (sqt_mono w.sub h1)
          obtain ⟨its2, r2, e2, z2⟩ := I.tuple (sqt_mono w.sub h2)
          have hsz : its.toArray.size = its2.toArray.size := by rw [List.size_toArray, List.size_toArray, ← r.length, ← r2.length]; exact Paired.length hp
          refine GQ.rc_tupG hsz (by omega) (fun _ s' => s' = s) e e2 (fun i h1 h2 s' q => ?_) (fun s' q => by rw [q]; exact hQ) rfl
          subst q
          have k := items_run (fun x y v u => ih n (Nat.lt_succ_self n) A.in1 (by show A.units + 1 + n < cLine; omega) x y v u) hp r r2 i (by simpa using h1) (by simpa using h2)
          have k2 := k E (fun r s2 => r = true ∧ s2 = s') ⟨rfl, rfl⟩
          simpa using k2
    ·
      cases hd with
      | lst h1 l1 =>
        cases he with
        | lst h2 l2 =>
          rename_i a vs b us
          refine refs rfl rfl fun E Q hQ => ?_
          have hp := pair_of l1 l2 q2
          obtain ⟨us, r1, p1, _⟩ := I.list (.inl (.inl (w.sub _ _ h1)))
          obtain ⟨ws, r2, p2, _⟩ := I.list (.inl (.inl (w.sub _ _ h2)))
          have hsz : us.toArray.size = ws.toArray.size := by
            rw [List.size_toArray, List.size_toArray, ← r1.length, ← r2.length]
            exact Paired.length hp
          refine SeqAt.rcP_lists (e := fun _ => true) p1.isList p2.isList hsz (by omega) (fun j h1 h2 => ?_) E Q ?_
          · have k := items_run (fun x y v u => ih n (Nat.lt_succ_self n) A.in1 (by show A.units + 1 + n < cLine; omega) x y v u) hp r1 r2 j (by simpa using h1) (by simpa using h2)
            simpa using k
          · rw [show ((List.range us.toArray.size).all fun _ => true) = true from List.all_eq_true.mpr fun _ _ => rfl]
            exact hQ
    ·
      cases hd with
      | dct h1 g1 l1 =>
        cases he with
        | dct h2 g2 l2 =>
          rename_i a kvs b lvs
          subst g1 g2
          refine refs rfl rfl fun E Q hQ => ?_
          obtain ⟨_, ya, va, ra, da⟩ := rdd_of I (fzd_mono w.sub h1).rd
          obtain ⟨_, yb, vb, rb, db⟩ := rdd_of I (fzd_mono w.sub h2).rd
          have hp := pairK_of l2 l1 q2.2
          refine PySem.W.rcP_dicts (knd := mixKind X.prog X.w) (r := true) ya yb da db (by omega) (fun _ => hits_run (fun x y v u => ih n (Nat.lt_succ_self n) A.in1 (by show A.units + 1 + n < cLine; omega) x y v u) rb ra hp) E Q ?_
          have e : va.length = vb.length := by
            rw [← ra.length, ← rb.length]
            have := q2.1
            rw [List.length_map, List.length_map] at this
            exact this
          rw [show (va.length == vb.length && true) = true from by rw [e]; simp]
          exact hQ
/-- a == b, equal data -/
def rEqN (K : PySem.W.Frag) : R2 := fun x y H Q => ∃ γ α F μ a b, Wd K γ α F H μ ∧ x = .ref a ∧ y = .ref b ∧ Rn K α F 60 x y ∧ Q (.bl true) H
theorem op_eqN (hu : X.A.units + 64 < cLine) : OpR X (compareOp .Eq) (rEqN X.K) := by
  intro pins s σ H x y v u Q I rx ry h
  obtain ⟨γ, α, F, μ, a, b, w, rfl, rfl, h, q⟩ := h
  cases (show v = Value.ref a from rx)
  cases (show u = Value.ref b from ry)
  show wpAny (model X.prog X.w) X.A (richCompare .Eq (.ref a) (.ref b)) (EP X pins σ Q) X.xe s
  obtain ⟨d, e, hd, he, q'⟩ := h
  have hQ : EP X pins σ Q (.bool true) s := ⟨.bl true, H, I, rfl, q⟩
  have run := fun x y v u => eqN_run w I 59 X.A.in1 (by show X.A.units + 1 + 59 < cLine; omega) x y v u
  cases hd with
  | tup h1 l1 =>
    cases he with
    | tup h2 l2 =>
      rw [eqN] at q'
      have hp := pair_of l1 l2 q'
      obtain ⟨its, r, e, z⟩ := I.tuple (sqt_mono w.sub h1)
      obtain ⟨its2, r2, e2, z2⟩ := I.tuple (sqt_mono w.sub h2)
      have hsz : its.toArray.size = its2.toArray.size := by rw [List.size_toArray, List.size_toArray, ← r.length, ← r2.length]; exact Paired.length hp
      refine GQ.rc_tupG hsz (by omega) (fun _ s' => s' = s) e e2 (fun i h1 h2 s' q => ?_) (fun s' q => by rw [q]; exact hQ) rfl
      subst q
      have k2 := items_run run hp r r2 i (by simpa using h1) (by simpa using h2) X.xe (fun r s2 => r = true ∧ s2 = s') ⟨rfl, rfl⟩
      simpa using k2
    | _ => cases q'
  | lst h1 l1 =>
    cases he with
    | lst h2 l2 =>
      rw [eqN] at q'
      have hp := pair_of l1 l2 q'
      obtain ⟨us, r1, p1, _⟩ := I.list (.inl (.inl (w.sub _ _ h1)))
      obtain ⟨ws, r2, p2, _⟩ := I.list (.inl (.inl (w.sub _ _ h2)))
      have hsz : us.toArray.size = ws.toArray.size := by
        rw [List.size_toArray, List.size_toArray, ← r1.length, ← r2.length]
        exact Paired.length hp
      refine SeqAt.rcP_lists (e := fun _ => true) p1.isList p2.isList hsz (by omega) (fun j h1 h2 => ?_) _ _ ?_
      · have k := items_run run hp r1 r2 j (by simpa using h1) (by simpa using h2)
        simpa using k
      · rw [show ((List.range us.toArray.size).all fun _ => true) = true from List.all_eq_true.mpr fun _ _ => rfl]
        exact hQ
    | _ => cases q'
  | dct h1 g1 l1 =>
    cases he with
    | dct h2 g2 l2 =>
      rw [eqN, Bool.and_eq_true, decide_eq_true_iff] at q'
      subst g1 g2
      obtain ⟨_, ya, va, ra, da⟩ := rdd_of I (fzd_mono w.sub h1).rd
      obtain ⟨_, yb, vb, rb, db⟩ := rdd_of I (fzd_mono w.sub h2).rd
      have hp := pairK_of l2 l1 q'.2
      refine PySem.W.rcP_dicts (knd := mixKind X.prog X.w) (r := true) ya yb da db (by omega) (fun _ => hits_run run rb ra hp) _ _ ?_
      have e : va.length = vb.length := by
        rw [← ra.length, ← rb.length]
        have := q'.1
        rw [List.length_map, List.length_map] at this
        exact this
      rw [show (va.length == vb.length && true) = true from by rw [e]; simp]
      exact hQ
    | _ => cases q'
  | _ => cases e <;> cases q'
end
def eqTD (d e : D) (μ : List Ob) : R D := match d, e with
  | .tup xs, .tup ys => if eqN 60 (.tup xs) (.tup ys) then .ok (.bl true) μ else .bad
  | _, _ => .bad
theorem op2_eqT {K : PySem.W.Frag} : Op2 K (rEqN K) eqTD := fun γ α F H μ x y d e Q E w hx hy q => by
  unfold eqTD at q
  split at q
  · split at q
    · rename_i h
      have w0 := w
      cases hx with
      | tup h1 l1 =>
        cases hy with
        | tup h2 l2 => exact ⟨γ, α, F, μ, _, _, w0, rfl, rfl, ⟨_, _, .tup h1 l1, .tup h2 l2, h⟩, fin_ok w0 (.bl true) q⟩
    · exact q.elim
  · exact q.elim
section
variable {X : Cx} {W : WX} {a b : Expr} {fa fb : RE} {pos : Pos} {k : Nat}
theorem pd_eqT (g : Good X W k) (ha : PD X W a fa) (hb : PD X W b fb) (hm : behindInMarks .Eq b = false := by rfl) : PD X W (.Compare a [.Eq] [b] pos) (rBin eqTD fa fb) := pd_cmp (op_eqN (by have := g.hu; omega)) op2_eqT hm ha hb
theorem pdt_eqT (g : Good X W k) (ha : PD X W a fa) (hb : PD X W b fb) (hm : behindInMarks .Eq b = false := by rfl) : PDT X W (.Compare a [.Eq] [b] pos) (rT (rBin eqTD fa fb)) := pdt_cmp (op_eqN (by have := g.hu; omega)) op2_eqT hm ha hb
end
end DL

/-! The data layer, p: readings applied (simp). -/
namespace DL
open PySem L2
@[simp] theorem s_rVar (i : Nat) (δ : Sl) (μ : List Ob) : rVar i δ μ = (match δ[i]? with
    | some (some d) => .ok d μ
    | _ => .bad) := rfl
@[simp] theorem s_rC (d : D) (δ : Sl) (μ : List Ob) : rC d δ μ = (.ok d μ) := rfl
@[simp] theorem s_rBin (g : D → D → List Ob → R D) (fa fb : RE) (δ : Sl) (μ : List Ob) : rBin g fa fb δ μ = ((fa δ μ).bind fun d μ1 => (fb δ μ1).bind fun e μ2 => g d e μ2) := rfl
@[simp] theorem s_rT (f : RE) (δ : Sl) (μ : List Ob) : rT f δ μ = ((f δ μ).bind fun d μ1 => match d with
    | .bl b => .ok b μ1
    | _ => .bad) := rfl
@[simp] theorem s_rChain (g g' : D → D → List Ob → R D) (fa fb fc : RE) (δ : Sl) (μ : List Ob) : rChain g g' fa fb fc δ μ = ((fa δ μ).bind fun d μ1 => (fb δ μ1).bind fun e μ2 => (g d e μ2).bind fun z μ3 => match z with
    | .bl true => (fc δ μ3).bind fun k μ4 => g' e k μ4
    | .bl false => .ok (.bl false) μ3
    | _ => .bad) := rfl
@[simp] theorem s_rAndT (t u : RT) (δ : Sl) (μ : List Ob) : rAndT t u δ μ = ((t δ μ).bind fun k μ1 => match k with
    | true => u δ μ1
    | false => .ok false μ1) := rfl
@[simp] theorem s_rOrT (t u : RT) (δ : Sl) (μ : List Ob) : rOrT t u δ μ = ((t δ μ).bind fun k μ1 => match k with
    | true => .ok true μ1
    | false => u δ μ1) := rfl
@[simp] theorem s_rNotT (t : RT) (δ : Sl) (μ : List Ob) : rNotT t δ μ = ((t δ μ).bind fun k μ1 => .ok (!k) μ1) := rfl
@[simp] theorem s_rAndV (fa fb : RE) (δ : Sl) (μ : List Ob) : rAndV fa fb δ μ = ((fa δ μ).bind fun d μ1 => match d with
    | .bl true => fb δ μ1
    | .bl false => .ok (.bl false) μ1
    | _ => .bad) := rfl
@[simp] theorem s_rOrV (fa fb : RE) (δ : Sl) (μ : List Ob) : rOrV fa fb δ μ = ((fa δ μ).bind fun d μ1 => match d with
    | .bl true => .ok (.bl true) μ1
    | .bl false => fb δ μ1
    | _ => .bad) := rfl
@[simp] theorem s_rNotV (fa : RE) (δ : Sl) (μ : List Ob) : rNotV fa δ μ = ((fa δ μ).bind fun d μ1 => match d with
    | .bl k => .ok (.bl (!k)) μ1
    | _ => .bad) := rfl
@[simp] theorem s_rIf (t : RT) (fa fb : RE) (δ : Sl) (μ : List Ob) : rIf t fa fb δ μ = ((t δ μ).bind fun k μ1 => match k with
    | true => fa δ μ1
    | false => fb δ μ1) := rfl
@[simp] theorem s_rNil (δ : Sl) (μ : List Ob) : rNil  δ μ = (.ok [] μ) := rfl
@[simp] theorem s_rCons (fa : RE) (fs : RA) (δ : Sl) (μ : List Ob) : rCons fa fs δ μ = ((fa δ μ).bind fun d μ1 => (fs δ μ1).bind fun ds μ2 => .ok (d :: ds) μ2) := rfl
@[simp] theorem s_rTup (fs : RA) (δ : Sl) (μ : List Ob) : rTup fs δ μ = ((fs δ μ).bind fun ds μ1 => if ds.length ≤ 16777216 then .ok (.tup ds) μ1 else .bad) := rfl
@[simp] theorem s_rLst (fs : RA) (δ : Sl) (μ : List Ob) : rLst fs δ μ = ((fs δ μ).bind fun ds μ1 => if ds.length ≤ 16777216 then .ok (.lst ds) μ1 else .bad) := rfl
@[simp] theorem s_rLstM (fs : RA) (δ : Sl) (μ : List Ob) : rLstM fs δ μ = ((fs δ μ).bind fun ds μ1 => if ds.length ≤ 16777216 then .ok (.loc μ1.length) (μ1 ++ [.lst ds]) else .bad) := rfl
@[simp] theorem s_rNone (δ : Sl) (μ : List Ob) : rNone  δ μ = (.ok none μ) := rfl
@[simp] theorem s_rSome (f : RE) (δ : Sl) (μ : List Ob) : rSome f δ μ = ((f δ μ).bind fun d μ1 => match d with
    | .int i => .ok (some i) μ1
    | _ => .bad) := rfl
@[simp] theorem s_rSlice (fa : RE) (fl fh : RO) (δ : Sl) (μ : List Ob) : rSlice fa fl fh δ μ = ((fa δ μ).bind fun d μ1 => (fl δ μ1).bind fun lo μ2 => (fh δ μ2).bind fun hi μ3 => sliceD d lo hi μ3) := rfl
@[simp] theorem s_rSeq (g h : RS) (δ : Sl) (μ : List Ob) : rSeq g h δ μ = (match g δ μ with
    | .nx δ1 μ1 => h δ1 μ1
    | r => r) := rfl
@[simp] theorem s_rDrop (f : RE) (δ : Sl) (μ : List Ob) : rDrop f δ μ = ((f δ μ).st δ fun _ μ1 => .nx δ μ1) := rfl
@[simp] theorem s_rRet (f : RE) (δ : Sl) (μ : List Ob) : rRet f δ μ = ((f δ μ).st δ fun d μ1 => .rt d μ1) := rfl
@[simp] theorem s_rIfS (ft : RT) (g h : RS) (δ : Sl) (μ : List Ob) : rIfS ft g h δ μ = ((ft δ μ).st δ fun k μ1 => match k with
    | true => g δ μ1
    | false => h δ μ1) := rfl
@[simp] theorem s_rSet (i : Nat) (f : RE) (δ : Sl) (μ : List Ob) : rSet i f δ μ = ((f δ μ).st δ fun d μ1 => .nx (δ.set i (some d)) μ1) := rfl
@[simp] theorem s_rAsg (t : Tg) (f : RE) (δ : Sl) (μ : List Ob) : rAsg t f δ μ = ((f δ μ).st δ fun d μ1 => match t.set d δ with
    | some δ1 => .nx δ1 μ1
    | none => .bad) := rfl
@[simp] theorem s_rPar (i j : Nat) (fs : RA) (δ : Sl) (μ : List Ob) : rPar i j fs δ μ = ((fs δ μ).st δ fun ds μ1 => match ds with
    | [d, e] => .nx ((δ.set i (some d)).set j (some e)) μ1
    | _ => .bad) := rfl
@[simp] theorem s_rAug (i : Nat) (g : Int → Int → Int) (f : RE) (δ : Sl) (μ : List Ob) : rAug i g f δ μ = (match δ[i]? with
    | some (some (.int a)) => (f δ μ).st δ fun d μ1 => match d with
      | .int b => .nx (δ.set i (some (.int (g a b)))) μ1
      | _ => .bad
    | _ => .bad) := rfl
@[simp] theorem s_rItems (f : RE) (δ : Sl) (μ : List Ob) : rItems f δ μ = ((f δ μ).bind fun d μ1 => match itemsD d with
    | some xs => .ok xs μ1
    | none => .bad) := rfl
@[simp] theorem s_rRange1 (fs : RA) (δ : Sl) (μ : List Ob) : rRange1 fs δ μ = ((fs δ μ).bind fun ds μ1 => match ds with
    | [.int j] => if -(2 ^ 62) ≤ j ∧ j < 2 ^ 62 then .ok (upTo 0 j.toNat) μ1 else .bad
    | _ => .bad) := rfl
@[simp] theorem s_rRange2 (fs : RA) (δ : Sl) (μ : List Ob) : rRange2 fs δ μ = ((fs δ μ).bind fun ds μ1 => match ds with
    | [.int i, .int j] => if -(2 ^ 62) ≤ i ∧ i < 2 ^ 62 ∧ -(2 ^ 62) ≤ j ∧ j < 2 ^ 62 then .ok (upTo i (j - i).toNat) μ1 else .bad
    | _ => .bad) := rfl
@[simp] theorem s_rItemsM (f : RE) (δ : Sl) (μ : List Ob) : rItemsM f δ μ = ((f δ μ).bind fun d μ1 => match d with
    | .dct ks xs => .ok ((ks.zip xs).map fun q => D.tup [Key.d q.1, q.2]) μ1
    | _ => .bad) := rfl
@[simp] theorem s_rFor (fi : RA) (t : Tg) (body : RS) (δ : Sl) (μ : List Ob) : rFor fi t body δ μ = ((fi δ μ).st δ fun ds μ1 => forL t body ds δ μ1) := rfl
@[simp] theorem s_rYes (δ : Sl) (μ : List Ob) : rYes  δ μ = (.ok true μ) := rfl
@[simp] theorem s_rLc (fi : RA) (t : Tg) (vs : List Nat) (ft : RT) (fe : RE) (δ : Sl) (μ : List Ob) : rLc fi t vs ft fe δ μ = ((fi δ μ).bind fun ds μ1 => (compL t vs ft fe ds δ μ1 []).bind fun ys μ2 => .ok (.lst ys) μ2) := rfl
@[simp] theorem s_rCall (n : Nat) (ct : Ct) (fs : RA) (δ : Sl) (μ : List Ob) : rCall n ct fs δ μ = ((fs δ μ).bind fun ds μ1 => if ds.length = n then ct ds μ1 else .bad) := rfl
@[simp] theorem s_rCB (g : List D → List Ob → R D) (fs : RA) (δ : Sl) (μ : List Ob) : rCB g fs δ μ = ((fs δ μ).bind g) := rfl
@[simp] theorem s_gNm (i : Nat) (d : D) (δ : Sl) (μ : List Ob) : gNm i d δ μ = (.nx (δ.set i (some d)) μ) := rfl
@[simp] theorem s_gSt (fo fi : RE) (d : D) (δ : Sl) (μ : List Ob) : gSt fo fi d δ μ = ((fo δ μ).st δ fun o μ1 => (fi δ μ1).st δ fun i μ2 => (storeD o i d μ2).st δ fun _ μ3 => .nx δ μ3) := rfl
@[simp] theorem s_gNil (ds : List D) (δ : Sl) (μ : List Ob) : gNil  ds δ μ = (match ds with
    | [] => .nx δ μ
    | _ => .bad) := rfl
@[simp] theorem s_gCons (g : D → RS) (gs : List D → RS) (ds : List D) (δ : Sl) (μ : List Ob) : gCons g gs ds δ μ = (match ds with
    | d :: r => rSeq (g d) (gs r) δ μ
    | [] => .bad) := rfl
@[simp] theorem s_gTp (n : Nat) (gs : List D → RS) (d : D) (δ : Sl) (μ : List Ob) : gTp n gs d δ μ = (match d with
    | .tup ds => if ds.length = n then gs ds δ μ else .bad
    | _ => .bad) := rfl
@[simp] theorem s_rAsgD (g : D → RS) (f : RE) (δ : Sl) (μ : List Ob) : rAsgD g f δ μ = ((f δ μ).st δ fun d μ1 => match g d δ μ1 with
    | .nx δ1 μ2 => .nx δ1 μ2
    | .exc x δ1 μ2 => .exc x δ1 μ2
    | _ => .bad) := rfl
@[simp] theorem s_rMt (c : D → Bool) (m : D → List D → List Ob → R D) (fo : RE) (fs : RA) (δ : Sl) (μ : List Ob) : rMt c m fo fs δ μ = ((fo δ μ).bind fun d μ1 => if c (d.view μ1) then (fs δ μ1).bind fun ds μ2 => m d ds μ2 else .bad) := rfl
@[simp] theorem s_rDnew (δ : Sl) (μ : List Ob) : rDnew  δ μ = (.ok (.loc μ.length) (μ ++ [.dct [] []])) := rfl
@[simp] theorem s_rFrz (f : RE) (δ : Sl) (μ : List Ob) : rFrz f δ μ = ((f δ μ).bind fun d μ1 => match d with
    | .loc k => match μ1[k]? with
      | some (.dct ks xs) => .ok (.dct ks xs) (μ1.set k .dead)
      | _ => .bad
    | _ => .bad) := rfl
@[simp] theorem s_rStar (f : RE) (fs : RA) (δ : Sl) (μ : List Ob) : rStar f fs δ μ = ((f δ μ).bind fun d μ1 => match d.view μ1 with
    | .lst xs => (fs δ μ1).bind fun ds μ2 => .ok (xs ++ ds) μ2
    | .tup xs => (fs δ μ1).bind fun ds μ2 => .ok (xs ++ ds) μ2
    | _ => .bad) := rfl
@[simp] theorem s_rFld (C : Addr) (f : Str) (fe : RE) (δ : Sl) (μ : List Ob) : rFld C f fe δ μ = ((fe δ μ).bind fun d μ1 => fldD C f d μ1) := rfl
@[simp] theorem s_rSetF (C : Addr) (f : Str) (fo fv : RE) (δ : Sl) (μ : List Ob) : rSetF C f fo fv δ μ = ((fv δ μ).st δ fun d μ1 => (fo δ μ1).st δ fun o μ2 => (stFld C f o d μ2).st δ fun _ μ3 => .nx δ μ3) := rfl
@[simp] theorem s_rMake (C : Addr) (n : Nat) (ct : Ct) (fs : RA) (δ : Sl) (μ : List Ob) : rMake C n ct fs δ μ = ((fs δ μ).bind fun ds μ1 => if ds.length = n then (match ct (.loc μ1.length :: ds) (μ1 ++ [.ins C [] []]) with
    | .ok .non μ2 => (match μ2[μ1.length]? with
      | some (.ins C' fs xs) => .ok (.ins C' fs xs) (μ2.set μ1.length .dead)
      | _ => .bad)
    | _ => .bad)
    else .bad) := rfl
@[simp] theorem s_rP (a : Addr) (ds : List D) (f : RE) (δ : Sl) (μ : List Ob) : rP a ds f δ μ = ((f δ μ).bind fun d μ1 => match d with
    | .vv (.ref b) => if b = a then .ok ds μ1 else .bad
    | _ => .bad) := rfl
@[simp] theorem s_rDc (fi : RA) (t : Tg) (vs : List Nat) (ft : RT) (fk fe : RE) (δ : Sl) (μ : List Ob) : rDc fi t vs ft fk fe δ μ = ((fi δ μ).bind fun ds μ1 => (dcL t vs ft fk fe ds δ μ1 [] []).bind fun p μ2 => .ok (.dct p.1 p.2) μ2) := rfl
@[simp] theorem s_rPar3 (i j l : Nat) (fs : RA) (δ : Sl) (μ : List Ob) : rPar3 i j l fs δ μ = ((fs δ μ).st δ fun ds μ1 => match ds with
    | [d, e, h] => .nx (((δ.set i (some d)).set j (some e)).set l (some h)) μ1
    | _ => .bad) := rfl
end DL

/-! The data layer, q: operations on known looks (simp). -/
namespace DL
open PySem L2
def lview (k : Nat) : Option Ob → D
  | some (.lst xs) => .lst xs
  | some (.dct ks xs) => .dct ks xs
  | some (.ins C fs xs) => .ins C fs xs
  | _ => .loc k
section
variable {μ : List Ob} {k : Nat} {xs ys : List D} {ks : List Key} {C : Addr} {fs : List Str} {d e x y z : D} {i j : Int} {b : Bool} {s t : Str} {ds : List D}
@[simp] theorem lv_loc : (D.loc k).view μ = lview k (μ[k]?) := by
  rw [view_loc]
  unfold lview
  cases μ[k]? with
  | none => rfl
  | some o => cases o <;> rfl
@[simp] theorem lv_lst : lview k (some (.lst xs)) = .lst xs := rfl
@[simp] theorem lv_dct : lview k (some (.dct ks xs)) = .dct ks xs := rfl
@[simp] theorem lv_ins : lview k (some (.ins C fs xs)) = .ins C fs xs := rfl
@[simp] theorem vw_int : (D.int i).view μ = .int i := rfl
@[simp] theorem vw_bl : (D.bl b).view μ = .bl b := rfl
@[simp] theorem vw_str : (D.str s).view μ = .str s := rfl
@[simp] theorem vw_non : D.non.view μ = .non := rfl
@[simp] theorem vw_tup : (D.tup xs).view μ = .tup xs := rfl
@[simp] theorem vw_lst : (D.lst xs).view μ = .lst xs := rfl
@[simp] theorem vw_frl : (D.frl xs).view μ = .frl xs := rfl
@[simp] theorem vw_dct : (D.dct ks xs).view μ = .dct ks xs := rfl
@[simp] theorem vw_ins : (D.ins C fs xs).view μ = .ins C fs xs := rfl
@[simp] theorem vw_vv {v : V} : (D.vv v).view μ = .vv v := rfl
def optR (o : Option D) (μ : List Ob) : R D := match o with
  | some x => .ok x μ
  | none => .bad
@[simp] theorem optR_some : optR (some x) μ = .ok x μ := rfl
/-! d[e] -/
def getV (d e : D) (μ : List Ob) : R D := match d with
  | .lst xs => match e with
    | .int i => optR (atI xs i) μ
    | _ => .bad
  | .tup xs => match e with
    | .int i => optR (atI xs i) μ
    | _ => .bad
  | .dct ks xs => match e.key with
    | some k => optR (lookD ks xs k) μ
    | none => .bad
  | _ => .bad
@[simp] theorem getD_eq : getD d e μ = getV (d.view μ) e μ := by
  unfold getD getV optR
  cases d.view μ <;> rfl
@[simp] theorem getV_lst : getV (.lst xs) (.int i) μ = optR (atI xs i) μ := rfl
@[simp] theorem getV_tup : getV (.tup xs) (.int i) μ = optR (atI xs i) μ := rfl
@[simp] theorem getV_str : getV (.dct ks xs) (.str s) μ = optR (lookD ks xs (.inr s)) μ := rfl
@[simp] theorem getV_int : getV (.dct ks xs) (.int i) μ = optR (lookD ks xs (.inl i)) μ := rfl
@[simp] theorem atI_0 : atI (x :: xs) 0 = some x := by simp [atI, ixN]
@[simp] theorem atI_1 : atI (x :: y :: xs) 1 = some y := by
  have h : (1 : Int) < ((x :: y :: xs).length : Int) := by simp only [List.length_cons]; omega
  unfold atI ixN
  rw [if_pos (by decide), if_pos h]
  rfl
@[simp] theorem atI_2 : atI (x :: y :: z :: xs) 2 = some z := by
  have h : (2 : Int) < ((x :: y :: z :: xs).length : Int) := by simp only [List.length_cons]; omega
  unfold atI ixN
  rw [if_pos (by decide), if_pos h]
  rfl
theorem atI_lt {n : Nat} (h : n < xs.length) : atI xs (n : Int) = some xs[n] := by
  unfold atI ixN
  rw [if_pos (by omega), if_pos (by omega)]
  simp [h]
theorem atI_in (h0 : 0 ≤ i) (h1 : i < xs.length) : ∃ x, atI xs i = some x ∧ xs[i.toNat]? = some x := by
  unfold atI ixN
  rw [if_pos h0, if_pos h1]
  have h : i.toNat < xs.length := by omega
  exact ⟨xs[i.toNat], by simp [h], by simp [h]⟩
theorem ixN_in {n : Nat} (h0 : 0 ≤ i) (h1 : i < n) : ixN n i = some i.toNat := by
  unfold ixN
  rw [if_pos h0, if_pos h1]
/-! + and the ints -/
def addV (d e : D) (μ : List Ob) : R D := match d, e with
  | .int i, .int j => .ok (.int (i + j)) μ
  | .str x, .str y => if x.length + y.length ≤ 16777216 then .ok (.str (x ++ y)) μ else .bad
  | .lst xs, .lst ys => if xs.length + ys.length ≤ 16777216 then .ok (.lst (xs ++ ys)) μ else .bad
  | .tup xs, .tup ys => if xs.length + ys.length ≤ 16777216 then .ok (.tup (xs ++ ys)) μ else .bad
  | _, _ => .bad
@[simp] theorem addD_eq : addD d e μ = addV (d.view μ) (e.view μ) μ := by
  unfold addD addV
  rfl
@[simp] theorem addV_int : addV (.int i) (.int j) μ = .ok (.int (i + j)) μ := rfl
@[simp] theorem addV_str : addV (.str s) (.str t) μ = if s.length + t.length ≤ 16777216 then .ok (.str (s ++ t)) μ else .bad := rfl
@[simp] theorem addV_lst : addV (.lst xs) (.lst ys) μ = if xs.length + ys.length ≤ 16777216 then .ok (.lst (xs ++ ys)) μ else .bad := rfl
@[simp] theorem intI_ii {C : Int → Int → Bool} {g : Int → Int → Int} : intI C g (.int i) (.int j) μ = if C i j then .ok (.int (g i j)) μ else .bad := rfl
@[simp] theorem intI0_ii {g : Int → Int → Int} : intI0 g (.int i) (.int j) μ = .ok (.int (g i j)) μ := rfl
@[simp] theorem intB_ii {g : Int → Int → Bool} : intB g (.int i) (.int j) μ = .ok (.bl (g i j)) μ := rfl
@[simp] theorem mulC_r (h : -18446744073709551616 < j ∧ j < 18446744073709551616) : mulC i j = true := by
  unfold mulC
  rw [Bool.or_eq_true]
  exact .inr (by rw [Bool.and_eq_true, decide_eq_true_iff, decide_eq_true_iff]; exact h)
/-! built-ins -/
@[simp] theorem intD_int : intD [.int i] μ = .ok (.int i) μ := rfl
@[simp] theorem max2D_ii : max2D [.int i, .int j] μ = .ok (.int (if j > i then j else i)) μ := rfl
def lenV (d : D) (μ : List Ob) : R D := match d with
  | .str z => if z.length ≤ 16777216 then .ok (.int (z.length : Nat)) μ else .bad
  | .lst xs => .ok (.int (xs.length : Nat)) μ
  | .frl xs => .ok (.int (xs.length : Nat)) μ
  | .tup xs => .ok (.int (xs.length : Nat)) μ
  | .dct _ xs => .ok (.int (xs.length : Nat)) μ
  | _ => .bad
@[simp] theorem lenD_eq : lenD [d] μ = lenV (d.view μ) μ := by unfold lenD lenV; rfl
@[simp] theorem lenV_lst : lenV (.lst xs) μ = .ok (.int (xs.length : Nat)) μ := rfl
@[simp] theorem lenV_frl : lenV (.frl xs) μ = .ok (.int (xs.length : Nat)) μ := rfl
@[simp] theorem lenV_tup : lenV (.tup xs) μ = .ok (.int (xs.length : Nat)) μ := rfl
@[simp] theorem lenV_dct : lenV (.dct ks xs) μ = .ok (.int (xs.length : Nat)) μ := rfl
@[simp] theorem listD_eq {m : Bool} : listD m [d] μ = match elsD (d.view μ) with
    | some xs => if m then .ok (.loc μ.length) (μ ++ [.lst xs]) else .ok (.lst xs) μ
    | none => .bad := rfl
@[simp] theorem els_lst : elsD (.lst xs) = some xs := rfl
@[simp] theorem els_frl : elsD (.frl xs) = some xs := rfl
@[simp] theorem els_tup : elsD (.tup xs) = some xs := rfl
def tupV (d : D) (μ : List Ob) : R D := match d with
  | .lst xs => .ok (.tup xs) μ
  | .tup xs => .ok (.tup xs) μ
  | _ => .bad
@[simp] theorem tupD_eq : tupD [d] μ = tupV (d.view μ) μ := rfl
@[simp] theorem tupV_lst : tupV (.lst xs) μ = .ok (.tup xs) μ := rfl
@[simp] theorem tupV_tup : tupV (.tup xs) μ = .ok (.tup xs) μ := rfl
def sliceV (d : D) (lo hi : Option Int) (μ : List Ob) : R D := match d with
  | .lst xs => .ok (.lst (cutL xs lo hi)) μ
  | .tup xs => .ok (.tup (cutL xs lo hi)) μ
  | _ => .bad
@[simp] theorem sliceD_eq {lo hi : Option Int} : sliceD d lo hi μ = sliceV (d.view μ) lo hi μ := rfl
@[simp] theorem sliceV_lst {lo hi : Option Int} : sliceV (.lst xs) lo hi μ = .ok (.lst (cutL xs lo hi)) μ := rfl
/-! in -/
@[simp] theorem inD_lst {neg : Bool} : inD neg d (.lst xs) μ = if (d.okd 60 && okdL 60 xs) = true then .ok (.bl (if neg = true then !xs.any fun z => z.eqb d else xs.any fun z => z.eqb d)) μ else .bad := rfl
@[simp] theorem inD_tup {neg : Bool} : inD neg d (.tup xs) μ = if (d.okd 60 && okdL 60 xs) = true then .ok (.bl (if neg = true then !xs.any fun z => z.eqb d else xs.any fun z => z.eqb d)) μ else .bad := rfl
@[simp] theorem inD_dct {neg : Bool} : inD neg (.str s) (.dct ks xs) μ = .ok (.bl (if neg = true then !(lookD ks xs (.inr s)).isSome else (lookD ks xs (.inr s)).isSome)) μ := rfl
/-! what the store says -/
theorem at_set {n m : Nat} {o : Ob} (h : n < μ.length) : (μ.set n o)[m]? = if n = m then some o else μ[m]? := by
  by_cases e : n = m
  · subst e
    rw [if_pos rfl, List.getElem?_set_self h]
  · rw [if_neg e, List.getElem?_set_ne e]
theorem lt_of {n : Nat} {o : Ob} (h : μ[n]? = some o) : n < μ.length := (List.getElem?_eq_some_iff.mp h).1
end
end DL

/-! The data layer, r: own exceptions whose __init__ says super().__init__(text). -/
namespace DL
open PySem L2 NdefX

/-- what the written part says of an own exception's __init__ at fI, F its words -/
structure XiK (P : Program) (K : PySem.W.Frag) (mg : Str → Option Value) (C fI : Addr) (F : NF) : Prop where
  oex : OexC K C
  lk : ∃ oc od osl dV kV doc pm an ctv, K.lookup fI = some ⟨oc, od, .func (PySem.W.fnX F.name F.qual F.params F.body F.scope F.cl dV kV doc pm an (.ref F.c) ctv), osl⟩
  cl : ∃ cc, F.cl = [(("__class__" : Str), cc)] ∧ ∃ a b c, K.lookup cc = some ⟨a, b, .cell (some (.ref C)), c⟩
  hcd : PySem.W.codeIn K (.ref F.c) F.qual = true
  file : ∃ ccl cdd vs ccs file tf, K.lookup F.c = some ⟨ccl, cdd, .fields vs, ccs⟩ ∧ vs[2]? = some (.str file tf) ∧ ((P.main.file : Str) == file) = true
  sup : PySem.W.ks_superIn K C C "__init__" = some (some (.builtin "ValueError.__init__"))
  tp : PySem.W.nsIn K PySem.cStatics "thirdparty.any" = some none
  smro : PySem.W.mroIn K C (.ref C) = some true
  sVE : PySem.W.subIn K (.ref C) (.type "ValueError") = some true
  top : (P.main.scope.names.lookup ("super" : Str)).isSome = false
  msup : mg "super" = none

section
variable {CX : CXT} {P : Program} {w : World} {K : PySem.W.Frag} {mg : Str → Option Value} {base : Heap} {N ps : List Str} {F : NF} {f C : Addr} {k : Nat} {sp : Sp} {s0 : Str} {txt : Str} {p0 p1 p2 p3 p4 p5 : Pos} {j : Nat} {rest : List Stmt} {ar : Arg} {more : List Arg}
/-- the word super().__init__(text) is run: nothing of it is told -/
theorem xi_super {A : Around} {outer : List Env} {s : Shared} {H : Hp} {E : XK} {σ : L2.St} {e : Addr} {s1 : Shared} {Q : Flow → Shared → Prop} (T : XiK P K mg C f F)
    (hp : (F.params.posonlyargs ++ F.params.args).head? = some ar) (h0 : N[0]? = some ar.arg) (hs : F.scope.names.lookup ("super" : Str) = some .globalImplicit) (hc : F.scope.names.lookup ("__class__" : Str) = some .free) (hl0 : F.scope.names.lookup ar.arg = some .local)
    (I : Inv (ncx CX P w K mg base N F f A outer s H E) [] σ H s1) (hσ : σ[0]? = some (some (.ref e))) (ea : H e = some (exo e C none))
    {pl : Sem Bool} (hev : ∀ L : Addr, eval (.Call (.Attribute (.Call (.Name "super" p0) [] [] p1) "__init__" p2) [.Constant (.str txt) j p3] [] p4) (envF F f L) = (do
      let ov ← attributeBase (.Call (.Name "super" p0) [] [] p1) "__init__" (envF F f L) (eval (.Call (.Name "super" p0) [] [] p1) (envF F f L))
      standAt p2.atName
      let (f', first) ← holding [ov] (getMethod ov "__init__" pl)
      callWith p4 f' first (backTo p4 (starEach [.Constant (.str txt) j p3] (envF F f L))) []))
    (h : ∀ s', Inv (ncx CX P w K mg base N F f A outer s H E) [] σ H s' → Q .next s') :
    _root_.PySem.wpAt (model P w) (A.deeper (envF F f s.heap.objs.size)) (.func F.body (envF F f s.heap.objs.size))
      (exec (.Expr (.Call (.Attribute (.Call (.Name "super" p0) [] [] p1) "__init__" p2) [.Constant (.str txt) j p3] [] p4) p5) (envF F f s.heap.objs.size)) Q (ncx CX P w K mg base N F f A outer s H E).xe s1 := by
  obtain ⟨cc, hcl, ca, cb, ccx, hcc⟩ := T.cl
  obtain ⟨oc, od, osl, dV, kV, doc, pm, an, ctv, lk⟩ := T.lk
  obtain ⟨ccl, cdd, vs, ccs, file, tf, hF, hv2, hfile⟩ := T.file
  obtain ⟨nm, q, Nn, bs, bm, sn, sub, ab, col, dd, k0, k1, k2, k3, k5, hC, hbm⟩ := T.oex.cls
  have hD : PySem.W.clsIn K C = some { name := nm, bases := bs, mro := .ref C :: bm, ns := Nn, qualname := q, hasDict := true, slotNames := sn, subclasses := sub, abstract := ab, collection := col, hasDel := false } := by unfold PySem.W.clsIn; rw [hC] <;> rfl
  have X := I.kIn
  obtain ⟨t1, ho⟩ := exo_at I.hok ea
  have ne : e ≠ C := fun z => by
    have y := X _ _ hC
    rw [← z, ho] at y
    cases y
  have hk : (envF F f s.heap.objs.size).scope.kind = .function := I.ok.kind
  have isE : ∀ {h' : Heap} {t2 : Addr}, K.In h' → h'.get? e = some ({ cls := .ref C, dict := none, data := .fields #[.ref t2, .none, .none, .none, .bool false, .none] } : Obj) → PySem.W.InstAt h' e _ C none := fun _ y => ⟨y, rfl, rfl, trivial⟩
  refine PySem.ks_wpAt_Expr_any ?_ I.quiet
  refine PySem.ks_wpAt_MethodCall (pl := pl) ?_ (hev _)
  refine PySem.ks_wpAt_super_base (env := envF F f s.heap.objs.size) hs hc (by decide) rfl (X _ _ lk) rfl hp rfl (X _ _ hF) rfl hv2 hfile T.top ?_
  obtain ⟨mb, hb1, hb2⟩ := I.mod.blt
  refine PySem.W.ks_loadName_global hk hs (Calls.loadGlobal_builtin (env := envF F f s.heap.objs.size) (I.mod.glob.keeps I.bk) T.msup (hb1.keeps I.bk) ((hb2 _ (by decide)).trans (by first | rfl | kernel_rfl | decide +kernel)) ⟨rfl, ?_⟩)
  refine wpAny_loadName_free hk hc (by show F.cl.lookup _ = _; rw [hcl]; rfl) ⟨_, X _ _ hcc, rfl⟩ ?_
  obtain ⟨ml, hns, hlk⟩ := I.loc
  obtain ⟨u, ru, hu⟩ := hlk 0 ar.arg (.ref e) h0 hσ (.inl hl0)
  obtain rfl : u = Value.ref e := ru
  have hml : ml ar.arg = some (.ref e) := by
    rcases hu with ⟨_, z⟩ | ⟨z | z, _⟩
    · exact z
    · have z : F.scope.names.lookup ar.arg = some .cell := z
      rw [hl0] at z; cases z
    · have z : F.scope.names.lookup ar.arg = some .free := z
      rw [hl0] at z; cases z
  refine wpAny_loadName_local hk hl0 hns hml ?_
  obtain ⟨hp, g, d, t, os⟩ := s1
  have hCh := X _ _ hC
  refine PySem.ks_wpAny_isType_cls hCh rfl ⟨rfl, ?_⟩
  refine PySem.ks_wpAny_call_super hCh rfl ho rfl (fun c z => by cases z) (PySem.W.looks_mroIn X T.smro) fun h1 e1 k1 => ?_
  have I1 := I.kept (t' := t) k1
  have X1 := I1.kIn
  have ho1 := k1 _ _ ho
  have hf1 : PySem.W.alongIn K "__init__" (((Value.ref C :: bm).dropWhile (· != .ref C)).drop 1) = some (some (.builtin "ValueError.__init__")) := by
    have z := T.sup
    unfold PySem.W.ks_superIn at z
    rw [hD] at z
    exact z
  have hI1 : PySem.W.Looks (model P w) h1 (isInstance (.ref e) (.type "ValueError")) true := (PySem.W.InstAt.type (od := none) ⟨ho1, rfl, rfl, trivial⟩).andThen (PySem.W.looks_subIn X1 T.sVE)
  refine PySem.W.kxs_getMethod (K := K) PySem.W.kxs_ValueError e1 (PySem.W.looks_opaque X1 T.tp) ((PySem.W.looks_clsIn X1 hD).andThen .now) rfl X1 hf1 hI1 ne (by decide) ?_
  have k2 : ∀ b o, h1.get? b = some o → (h1.push (PySem.W.kxs_mw "ValueError.__init__" e)).get? b = some o := fun b o y => Heap.get?_push_of_some _ y
  have I2 := I1.kept (t' := t + 1) k2
  have hu2 : (h1.push (PySem.W.kxs_mw "ValueError.__init__" e)).get? h1.objs.size = some (PySem.W.kxs_mw "ValueError.__init__" e) := Heap.get?_push_size h1 rfl
  have hI2 : Inv (ncx CX P w K mg base N F f A outer s H E) [((h1.objs.size, PySem.W.kxs_mw "ValueError.__init__" e))] σ H ⟨h1.push (PySem.W.kxs_mw "ValueError.__init__" e), g, d, t + 1, os⟩ := I2.pins_of fun p hp => by
    simp only [List.mem_singleton] at hp
    subst hp
    have fr := I1.hok.fresh (Nat.le_refl _)
    exact ⟨hu2, fr, fun z => by have := I1.lt; rw [← z] at this; exact absurd this (Nat.lt_irrefl _), I1.nofs (Nat.le_refl _), fun v z => by cases z⟩
  show wpAny _ _ (callWith p4 (.ref h1.objs.size) [] (backTo p4 (starEach [.Constant (.str txt) j p3] (envF F f s.heap.objs.size))) []) _ _ _
  refine PySem.W.kxs_callWith (i := "ValueError.__init__") (x := e) rfl (PySem.Calls.evalArgs_plain ?_)
  have hpa := (pa_cons (e := .Constant (.str txt) j p3) (es := []) pe_str pa_nil : PA (ncx CX P w K mg base N F f A outer s H E) [.Constant (.str txt) j p3] _)
  refine thn (hpa.run p4 _ _ σ H (fun vs H' => H' = H ∧ vs.length = 1) hI2 ⟨rfl, rfl⟩) fun us s3 ⟨vs3, H3, I3, r3, hH, hl3⟩ => ?_
  subst hH
  have hu3 := (I3.pin _ (List.mem_append_right _ (List.mem_singleton.mpr rfl))).1
  refine ⟨hu3, ?_⟩
  have hus : us.length ≤ sizeLine := by rw [← r3.length, hl3, sizeLine_eq]; decide
  obtain ⟨t3, ho3⟩ := exo_at I3.hok ea
  have hC3 := I3.kIn _ _ hC
  have I4 := I3.unpinned (pins := [])
  obtain ⟨hp3, g3, d3, tk3, os3⟩ := s3
  refine wpAny_call (codeAny_of_tree ?_)
  show wpAny _ _ (callAny (.ref h1.objs.size) ⟨[] ++ us, []⟩) _ _ _
  simp only [callAny]
  refine wpAny_bind (wpAny_load hu3 ?_)
  simp only [PySem.W.kxs_mw, show (Value.type "method-wrapper" == Value.type "method" || Value.type "method-wrapper" == Value.type "builtin_function_or_method" || Value.type "method-wrapper" == Value.type "method-wrapper") = true by decide, if_true]
  refine PySem.W.KFB.if_so (by decide) ?_
  refine wpAny_bind (PySem.W.check_bound_init PySem.F.excBase_ValueError.toExcCallFacts hC3 ho3 rfl ?_)
  refine wpAny_bind (wpAny_pure (wpAny_pure ?_))
  refine ⟨plainId_quiet PySem.F.excBase_ValueError.init.plain _, codeAny_builtin PySem.F.excBase_ValueError.initEntry ?_⟩
  refine PySem.W.exc_init_tree (cls := .ref C) (t0 := t3) (dv := none) (c2 := .none) (c3 := .none) (b4 := .bool false) ho3 hus fun h4 k4 e4 _ => ?_
  have J := I4.write (t' := tk3) (x := e) (e := e) (o := exo e C none) (by rw [ea]; exact True.intro) (.inl rfl) k4 ⟨_, e4⟩ (exo_ok e4)
  have eu : upd H3 e (exo e C none) = H3 := upd_id ea
  rw [eu] at J
  exact h _ J
end
end DL

namespace DL
open PySem L2 NdefX
/-- the words of an own exception's __init__: super().__init__(text), then the rest -/
structure XiW (F : NF) (N ps : List Str) (rest : List Stmt) : Prop where
  S : NScope N ps ["__class__"] F.scope
  body : ∃ p0 p1 p2 p3 p4 p5 txt j pl, F.body = .Expr (.Call (.Attribute (.Call (.Name "super" p0) [] [] p1) "__init__" p2) [.Constant (.str txt) j p3] [] p4) p5 :: rest ∧
    ∀ (f L : Addr), eval (.Call (.Attribute (.Call (.Name "super" p0) [] [] p1) "__init__" p2) [.Constant (.str txt) j p3] [] p4) (envF F f L) = (do
      let ov ← attributeBase (.Call (.Name "super" p0) [] [] p1) "__init__" (envF F f L) (eval (.Call (.Name "super" p0) [] [] p1) (envF F f L))
      standAt p2.atName
      let (f', first) ← holding [ov] (getMethod ov "__init__" pl)
      callWith p4 f' first (backTo p4 (starEach [.Constant (.str txt) j p3] (envF F f L))) [])
  hp : ∃ ar, (F.params.posonlyargs ++ F.params.args).head? = some ar ∧ N[0]? = some ar.arg ∧ F.scope.names.lookup ar.arg = some .local
  hs : F.scope.names.lookup ("super" : Str) = some .globalImplicit
  hc : F.scope.names.lookup ("__class__" : Str) = some .free
  hb : ∀ (dV kV doc pm : Value) (an : Option Addr) (ctv : Value) (us : List Value), us.length = ps.length → bindArgs (PySem.W.fnX F.name F.qual F.params F.body F.scope F.cl .none kV doc pm an (.ref F.c) ctv) ⟨us, []⟩ = pure (ps.zip us)
section
variable {CX : CXT} {P : Program} {w : World} {K : PySem.W.Frag} {mg : Str → Option Value} {base : Heap} {N ps : List Str} {F : NF} {f C : Addr} {k : Nat} {sp : Sp} {rest : List Stmt}
theorem xi_ok {oc kV doc pm ctv : Value} {od an : Option Addr} {osl : Array (Option Value)} (T : XiK P K mg C f F) (Y : XiW F N ps rest)
    (lk : K.lookup f = some ⟨oc, od, .func (PySem.W.fnX F.name F.qual F.params F.body F.scope F.cl .none kV doc pm an (.ref F.c) ctv), osl⟩)
    (len : ∀ vs H Q E, sp vs H Q E → vs.length = ps.length) (pre : ∀ vs H Q E, sp vs H Q E → ∃ e vs', vs = .ref e :: vs' ∧ H e = some (exo e C none))
    (hrest : ∀ (A : Around) (outer : List Env) (s : Shared) (H : Hp) (vs : List V) (Q : VK) (E : XK), sp vs H Q E →
      ∃ t, PSs (ncx CX P w K mg base N F f A outer s H E) rest t ∧ t { nx := fun _ H' => Q .non H', rt := Q } (startF N vs [some (.ref C)]) H) :
    FnOk P w K mg base CX (k + 1) f (PySem.W.fnX F.name F.qual F.params F.body F.scope F.cl .none kV doc pm an (.ref F.c) ctv) ps sp := by
  refine ⟨len, fun A outer s H args us vs Q E hr e0 hb r hsp => ?_⟩
  have hl := len _ _ _ _ hsp
  obtain ⟨e, vs', hvs, ea⟩ := pre _ _ _ _ hsp
  have KX : K.In s.heap := e0.mod.kin.keeps fun b o e => (e0.bs b o e).1
  have lim : s.heap.NoLimit := e0.mod.nolimit.keeps fun b o e => (e0.bs b o e).1
  obtain ⟨cc, hcl, ca, cb, ccx, hcc⟩ := T.cl
  obtain ⟨p0, p1, p2, p3, p4, p5, txt, j, pl, hbody, hev⟩ := Y.body
  obtain ⟨ar, hp, h0, hl0⟩ := Y.hp
  have hbs : ∀ b o, K.lookup b = some o → H b = none := fun b o z => (e0.bs b o (e0.mod.kin _ _ z)).2
  have CA : CellsAt F.cl ["__class__"] [some (.ref C)] s.heap H := by
    refine ⟨rfl, fun y c z => ?_, fun x y c z1 z2 => ?_, fun i y z => ?_⟩
    · rw [hcl] at z
      simp only [List.lookup] at z
      split at z
      · cases z
        exact ⟨hbs _ _ hcc, _, _, KX _ _ hcc, rfl⟩
      · cases z
    · rw [hcl] at z1 z2
      simp only [List.lookup] at z1 z2
      split at z1
      · split at z2
        · rename_i h1 _ h2
          exact (beq_iff_eq.mp h1).trans (beq_iff_eq.mp h2).symm
        · cases z2
      · cases z1
    · match i, z with
      | 0, z =>
        simp at z
        subst z
        refine ⟨cc, by rw [hcl]; simp [List.lookup], fun v hv => ?_⟩
        simp at hv
        subst hv
        exact ⟨.ref C, rfl, _, KX _ _ hcc, rfl⟩
      | i + 1, z => simp at z
  refine codeAny_call_function hr.depth (KX _ _ lk) rfl Y.S.co Y.S.gen rfl (PySem.W.codeRec_of KX T.hcd) (hb _ _ _ _ ?_)
  refine wpAny_newFunctionEnv Y.S.nocell (fun ⟨n, _⟩ hy => Y.S.par n (List.of_mem_zip hy).1) (fun h₁ hns hsb => ⟨lim.fresh _ hsb, ?_⟩) Y.S.kind
  show codeAny _ _ (.func F.body (envF F f s.heap.objs.size)) _ _
  have kp : ∀ b o, s.heap.get? b = some o → h₁.get? b = some o := fun b o e => hsb.extBut b o (Nat.ne_of_lt (Heap.lt_size e)) (Heap.get?_push_of_some _ e)
  have I : Inv (ncx CX P w K mg base N F f A outer s H E) [] (startF N vs [some (.ref C)]) H { s with heap := h₁, toks := s.toks + (ps.zip us).length } := inv_startN Y.S hr.hd e0 hl r CA hns kp
  obtain ⟨t, ht, hq⟩ := hrest A outer s H vs Q E hsp
  refine ks_codeAny_funcAt ?_
  have goal : _root_.PySem.wpAt (model P w) (A.deeper (envF F f s.heap.objs.size)) (.func F.body (envF F f s.heap.objs.size)) (execs (.Expr (.Call (.Attribute (.Call (.Name "super" p0) [] [] p1) "__init__" p2) [.Constant (.str txt) j p3] [] p4) p5 :: rest) (envF F f s.heap.objs.size))
      (SP (ncx CX P w K mg base N F f A outer s H E) [] { nx := fun _ H' => Q .non H', rt := Q }) (ncx CX P w K mg base N F f A outer s H E).xe { s with heap := h₁, toks := s.toks + (ps.zip us).length } := by
    refine ks_wpAt_execs_cons ?_
    refine xi_super (ar := ar) (e := e) T hp h0 Y.hs Y.hc hl0 I (by unfold startF; rw [hvs]; rfl) ea (hev f) fun s' J => ?_
    exact wpAt_of_wpAny (ht.run [] s' _ H _ J hq)
  rw [← hbody] at goal
  refine ks_wpAt_mono goal (fun fl s' hs => ?_) fun e s' hs => hs
  have fin : ∀ {σ' : L2.St} {H' : Hp} {v : V} {u : Value}, Inv (ncx CX P w K mg base N F f A outer s H E) [] σ' H' s' → L2.RelV v u → Q v H' → CE outer P w H s Q u s' :=
    fun {σ' H' v u} J rv q => ⟨v, H', J.os, J.bare, J.base, J.hok, rv, q⟩
  cases fl with
  | ret u =>
    obtain ⟨v, σ', H', J, rv, q⟩ := hs
    exact fin J rv q
  | next =>
    obtain ⟨σ', H', J, q⟩ := hs
    exact fin (v := V.non) (u := Value.none) J rfl q
  | brk =>
    obtain ⟨_, _, _, q⟩ := hs
    exact False.elim q
  | cont =>
    obtain ⟨_, _, _, q⟩ := hs
    exact False.elim q
end
end DL

namespace DL
open PySem L2 NdefX
/-! ### C(e): an exception with one field; C(): one with none -/
section
variable {X : Cx} {W : WX} {K : PySem.W.Frag} {mg : Str → Option Value} {P : Program} {w : World} {base : Heap} {F : NF} {f C : Addr}
/-- an own exception's class: its __init__ is such a def -/
structure Xc (P : Program) (w : World) (K : PySem.W.Frag) (mg : Str → Option Value) (x : Str) (C : Addr) (flds : List Str) : Prop where
  ex : ∃ (f : Addr) (F : NF) (fd : FuncData), OexC K C ∧ PySem.W.findIn K (.ref C) "__init__" = some (some (.ref f)) ∧ PySem.W.typeIn K (.ref f) = some (.type "function") ∧ mg x = some (.ref C) ∧ (∃ ps, ps.length = flds.length + 1 ∧ Binds K fd ps [] ∧
    ∀ (base : Heap) (CX : CXT), FnOk P w K mg base CX 2 f fd ps (fun vs H Q _ => vs.length = flds.length + 1 ∧ ∃ e vs', vs = .ref e :: vs' ∧ H e = some (exo e C none) ∧
      match flds with
      | [] => Q .non H
      | [g] => ∀ v, vs' = [v] → ∀ dx, H dx = none → dx ≠ e → Q .non (upd (upd H dx (exd dx [(g, v)])) e (exo e C (some dx)))
      | _ => False))
theorem xc_one {oc kV doc pm ctv : Value} {od an : Option Addr} {osl : Array (Option Value)} {x xf g : Str} {N : List Str} {rest : List Stmt} {pa pb pc pd : Pos} (T : XiK P K mg C f F) (Y : XiW F N ["self", xf] rest)
    (lk : K.lookup f = some ⟨oc, od, .func (PySem.W.fnX F.name F.qual F.params F.body F.scope F.cl .none kV doc pm an (.ref F.c) ctv), osl⟩)
    (hr : rest = [.Assign [.Attribute (.Name "self" pa) g pb] (.Name xf pc) pd]) (hN : N = ([("self" : Str), xf, ("__class__" : Str)] : List Str)) (hm : mg x = some (.ref C)) (hI : PySem.W.findIn K (.ref C) "__init__" = some (some (.ref f))) (hT : PySem.W.typeIn K (.ref f) = some (.type "function"))
    (hno : PySem.W.findIn K (.ref C) g = some none) (h1 : F.scope.names.lookup ("self" : Str) = some .local) (h2 : F.scope.names.lookup xf = some .local) (hd : (xf == ("__debug__" : Str)) = false) (hcd : (xf == ("__classdict__" : Str)) = false) : Xc P w K mg x C [g] := by
  refine ⟨f, F, _, T.oex, hI, hT, hm, ["self", xf], rfl, .all (fun us hl => Y.hb .none kV doc pm an ctv us hl), fun base CX => ?_⟩
  refine (xi_ok (k := 1) T Y lk (fun vs H Q E h => h.1) (fun vs H Q E h => let ⟨e, vs', h1, h2, _⟩ := h.2; ⟨e, vs', h1, h2⟩) fun A outer s H vs Q E h => ?_)
  subst hr
  subst hN
  obtain ⟨hl, e, vs', rfl, ea, q⟩ := h
  match vs', hl, q with
  | [v], _, q =>
    refine ⟨_, pss_one (ps_ost (pe_var (i := 0) rfl (.inl h1)) (pe_var (i := 1) rfl (.inl h2) hd hcd)), ?_⟩
    exact ⟨v, rfl, .ref e, rfl, e, C, rfl, T.oex, hno, .inl ⟨ea, fun dx n ne => q v rfl dx n ne⟩⟩
theorem xc_nil {oc kV doc pm ctv : Value} {od an : Option Addr} {osl : Array (Option Value)} {x : Str} {N : List Str} (T : XiK P K mg C f F) (Y : XiW F N ["self"] [])
    (lk : K.lookup f = some ⟨oc, od, .func (PySem.W.fnX F.name F.qual F.params F.body F.scope F.cl .none kV doc pm an (.ref F.c) ctv), osl⟩)
    (hm : mg x = some (.ref C)) (hI : PySem.W.findIn K (.ref C) "__init__" = some (some (.ref f))) (hT : PySem.W.typeIn K (.ref f) = some (.type "function")) : Xc P w K mg x C [] := by
  refine ⟨f, F, _, T.oex, hI, hT, hm, ["self"], rfl, .all (fun us hl => Y.hb .none kV doc pm an ctv us hl), fun base CX => ?_⟩
  refine (xi_ok (k := 1) T Y lk (fun vs H Q E h => h.1) (fun vs H Q E h => let ⟨e, vs', h1, h2, _⟩ := h.2; ⟨e, vs', h1, h2⟩) fun A outer s H vs Q E h => ?_)
  obtain ⟨hl, e, vs', rfl, ea, q⟩ := h
  exact ⟨_, pss_nil, q⟩
end
end DL

namespace DL
open PySem L2 PyProof.Rows
section
variable {X : Cx} {W : WX} {x : Str} {C : Addr} {k : Nat} {p pos pos2 : Pos} {e : Expr} {fs : RA} {g : Str}
/-- the end of C(): the exception is let go -/
theorem mk_bare {pins : List (Addr × Obj)} {σ : L2.St} {H1 : Hp} {Q : XK} {hp hp2 h2 : Heap} {g1 g2 : Array GenState} {d1 d2 : Drawn} {t1 t2 : Nat} {os1 os2 : OsState} {a : Addr} (T : Raises X (.ref C)) (I1 : Inv X pins σ H1 ⟨hp, g1, d1, t1, os1⟩)
    (ha : hp.objs.size ≤ a) (k : ∀ b o, hp.get? b = some o → hp2.get? b = some o) (un : Un (frs X.stack) [] (upd H1 a (exo a C none)) (upd H1 a (exo a C none)) hp2 h2) (hok : HOk X.prog X.w (upd H1 a (exo a C none)) h2) (ho : os2 = os1) (hb : AllBare g2)
    (q : Q (.ref C) none H1) : MkP X pins σ Q (.ref a) ⟨h2, g2, d2, t2, os2⟩ := by
  have ea : upd H1 a (exo a C none) a = some (exo a C none) := upd_same
  obtain ⟨t0, hoe⟩ := exo_at hok ea
  have hn : H1 a = none := I1.hok.fresh ha
  obtain ⟨G, g1', g2'⟩ := restrict h2 fun b => decide (b ≠ a)
  have gk : ∀ b, b ≠ a → G.get? b = h2.get? b := fun b hb => g1' b (decide_eq_true hb)
  have ge : G.get? a = none := g2' a (by simp)
  have nha : ∀ {b : Addr} {o : Obj}, hp.get? b = some o → b ≠ a := fun {b o} z => Nat.ne_of_lt (Nat.lt_of_lt_of_le (Heap.lt_size z) ha)
  have up : ∀ {b : Addr}, b ≠ a → H1 b = none → upd H1 a (exo a C none) b = none := fun {b} hb n => by rw [upd_ne hb]; exact n
  have dn : ∀ {b : Addr} {o : Obj}, hp.get? b = some o → upd H1 a (exo a C none) b = none → H1 b = none := fun {b o} z y => by
    rw [upd_ne (nha z)] at y
    exact y
  have U : Un (frs X.stack) [] H1 H1 hp G := {
    keep := fun b o z n hf hx => by
      rw [gk b (nha z)]
      exact un.keep b o (k b o z) (up (nha z) n) hf hx
    slot := fun b o z n hf hx => by
      rw [gk b (nha z)]
      exact un.slot b o (k b o z) (up (nha z) n) hf hx
    free := fun b o z n hx => n
    there := fun b o z hx => by
      rw [gk b (nha z)]
      exact un.there b o (k b o z) hx
    tups := fun b xs z => z
    frzs := fun b o v z => z
    tbls := fun b ps z => by
      obtain ⟨m, y⟩ := un.tbls b ps (by rw [upd_ne (ne_of_none z hn)]; exact z)
      rw [upd_ne (ne_of_none z hn)] at y
      exact ⟨m, y⟩ }
  have hok3 : HOk X.prog X.w H1 G := fun b o z => by
    have hba : b ≠ a := ne_of_none z hn
    have z' : upd H1 a (exo a C none) b = some o := by rw [upd_ne hba]; exact z
    have noa : ∀ {c : Addr}, upd H1 a (exo a C none) c = some (.own b) → c ≠ a := fun {c} hc => at_ne ea hc exo_own
    exact (hok b o z').stay (fun c v hc y => by
        have hca : c ≠ a := by
          rcases hc with hc | hc
          · rw [hc]
            exact hba
          · exact noa hc
        rw [gk c hca]
        exact y)
      (fun c hc => by have := noa hc; rw [upd_ne this] at hc; exact hc) (fun c xs hc => by have := at_ne ea hc exo_tup; rw [upd_ne this] at hc; exact hc)
  have J : Inv X pins σ H1 ⟨G, g2, d2, t2, os2⟩ := I1.call' (ch := []) ho U hok3 hb (fun b z => absurd z (by simp))
  refine ⟨a, _, _, ⟨G, g2, d2, t2, os2⟩, _, .ref C, none, rfl, J, fun b o z => ?_, ge, hoe, ⟨rfl, rfl⟩, rfl, rfl, hn, rfl, hb, T, q⟩
  by_cases hba : b = a
  · rw [hba, ge] at z
    cases z
  · exact (gk b hba).symm.trans z
theorem pmk_nil (T : Xc X.prog X.w X.K X.mg x C []) (hr : Room 3 X.A) (hg : Gl X x) (hdb : (x == ("__debug__" : Str)) = false := by decide) :
    PMk X (.Call (.Name x p) [] [] pos) (fun σ H Q => Q (.ref C) none H) := by
  obtain ⟨f, F, fd, T1, iC, tI, hm, ps, hps, hb, hF⟩ := T.ex
  intro pins s σ H Q I h
  have F1 := hF X.base (L2.CX X.prog X.w)
  obtain ⟨nm, q, N, bs, bm, sn, sub, ab, col, dd, k0, k1, k2, k3, k5, hC, hbm⟩ := T1.cls
  refine wpAny_Call_Name_kw (ld_glob I hg hm ?_ hdb)
  refine PySem.W.callWith_K0 I.kIn T1.kC ?_
  show wpAny _ _ (call (.ref C) []) _ _ _
  obtain ⟨hp, g, dr, tk, os⟩ := s
  have hsz : hp.objs.size ≤ hp.objs.size + 1 := Nat.le_succ _
  have hn : H (hp.objs.size + 1) = none := I.hok.fresh hsz
  have kk : ∀ b o, hp.get? b = some o → ((hp.push (PySem.W.kdv_tup [])).push (PySem.HandSPX.excO C hp.objs.size)).get? b = some o := fun b o e => Heap.get?_push_of_some _ (Heap.get?_push_of_some _ e)
  have hget : ((hp.push (PySem.W.kdv_tup [])).push (PySem.HandSPX.excO C hp.objs.size)).get? (hp.objs.size + 1) = some (PySem.HandSPX.excO C hp.objs.size) := by heap_get
  have I2 : Inv X pins σ (upd H (hp.objs.size + 1) (exo (hp.objs.size + 1) C none)) ⟨(hp.push (PySem.W.kdv_tup [])).push (PySem.HandSPX.excO C hp.objs.size), g, dr, tk, os⟩ :=
    I.laid (t' := tk) (a := hp.objs.size + 1) (o := exo (hp.objs.size + 1) C none) (h' := (hp.push (PySem.W.kdv_tup [])).push (PySem.HandSPX.excO C hp.objs.size)) kk hsz (exo_ok hget)
  have r2 : Vals [V.ref (hp.objs.size + 1)] [Value.ref (hp.objs.size + 1)] := .cons rfl .nil
  refine wpAny_call (PySem.HandSPX.call_own PySem.F.excBase_ValueError (fun Y => PySem.HandSPX.refsVE_contains Y bm hbm) (I.kIn _ _ hC) (PySem.W.looks_findIn I.kIn iC) (fun self => PySem.W.bind_fn I.kIn self tI) (by decide)
    (codeAny_mono (F1.run _ X.stack _ _ ⟨[Value.ref (hp.objs.size + 1)], []⟩ [Value.ref (hp.objs.size + 1)] _ (fun v H2 => v = .non ∧ H2 = upd H (hp.objs.size + 1) (exo (hp.objs.size + 1) C none)) (fun _ _ _ => False) (hr.make C [] []) (I2.env0.make C [] [])
      (by have z := hb ⟨(hp.push (PySem.W.kdv_tup [])).push (PySem.HandSPX.excO C hp.objs.size), g, dr, tk, os⟩ [Value.ref (hp.objs.size + 1)] I2.kIn (by rw [hps]; rfl); rw [List.append_nil] at z; exact z) r2 ⟨rfl, _, [], rfl, upd_same, rfl, rfl⟩) fun r s' hq' => ?_))
  cases r with
  | error er => exact passL (X := X) pins σ _ _ er s' I2 hq'
  | ok fl =>
    cases fl with
    | ret u =>
      obtain ⟨v, H2, os2, bare2, un2, hok2, rv, ev, e2⟩ := hq'
      subst ev
      subst e2
      obtain ⟨h2, g2, d2, t2, os'⟩ := s'
      exact ⟨rv, mk_bare (raises_own T1.exC T1.tyC) I hsz kk un2 hok2 os2 bare2 h⟩
    | next => exact False.elim hq'
    | brk => exact False.elim hq'
    | cont => exact False.elim hq'
/-- raise C(e) | raise C() -/
def rRaise (C : Addr) (gs : List Str) (fs : RA) : RS := fun δ μ => (fs δ μ).st δ fun ds μ1 => if ds.length = gs.length then .exc ⟨.ref C, gs, ds⟩ δ μ1 else .bad
theorem psd_raise1 (T : Xc X.prog X.w X.K X.mg x C [g]) (gd : Good X W k) (ha : PDA X W [e] fs) (hk : 3 ≤ k := by decide) (hg : Gl X x := by rfl) (hdb : (x == ("__debug__" : Str)) = false := by decide)
    (he : starEach [e] X.env = (false, eval e X.env) :: starEach [] X.env := by rfl) : PSD X W (.Raise (some (.Call (.Name x p) [e] [] pos)) none pos2) (rRaise C [g] fs) := by
  obtain ⟨f, F, fd, T1, iC, tI, hm, ps, hps, hb, hF⟩ := T.ex
  refine ps_weak (ps_raise gd.calm gd.tk (pmk_oex T1 iC tI (hF X.base (L2.CX X.prog X.w)) (gd.hr.mono hk) hb .nil passL hg hm ha hdb he rfl)) fun D σ H ⟨γ, α, F, μ, δ, w, s, q⟩ => ?_
  refine tDA_st w s q fun ds μ1 α1 F1 H1 vs p1 e1 w1 s1 hv q1 => ?_
  match ds, hv, q1 with
  | [d], .cons (v := v) hd .nil, q1 =>
    refine ⟨by simp, fun a na => ?_⟩
    refine ⟨rfl, a, _, rfl, upd_same, fun v' hv' dx n ne => ?_⟩
    simp only [List.append_nil, List.cons.injEq, and_true] at hv'
    subst hv'
    have ndx : H1 dx = none := by rw [upd_ne ne] at n; exact n
    refine ⟨rfl, dx, [(g, v)], upd_same, by rw [upd_ne ne, upd_same], ndx, ?_⟩
    have eH : upd (del (upd (upd (upd H1 a (exo a C none)) dx (exd dx [(g, v)])) a (exo a C (some dx))) a) dx (.xd [(g, v)]) = upd H1 dx (.xd [(g, v)]) := by
      funext b
      by_cases hb : b = dx
      · rw [hb, upd_same, upd_same]
      · rw [upd_ne hb, upd_ne hb]
        by_cases hba : b = a
        · rw [hba, del_same, na]
        · rw [del_ne hba, upd_ne hba, upd_ne hb, upd_ne hba]
    rw [eH]
    have fr := w1.sub.free ndx
    refine q1 α1 (upd F1 dx (.xd [(g, v)])) _ _ _ _ (List.prefix_refl _) (same_new fr) (w1.lay ndx) (s1.mono (List.prefix_refl _) (same_new fr)) ⟨rfl, .inr ⟨dx, [(g, v)], rfl, upd_same, rfl, .cons (hd.mono (List.prefix_refl _) (same_new fr)) .nil⟩⟩
  | [], _, q1 => exact q1.elim
  | _ :: _ :: _, _, q1 => exact q1.elim
theorem psd_raise0 (T : Xc X.prog X.w X.K X.mg x C []) (gd : Good X W k) (hk : 3 ≤ k := by decide) (hg : Gl X x := by rfl) (hdb : (x == ("__debug__" : Str)) = false := by decide) :
    PSD X W (.Raise (some (.Call (.Name x p) [] [] pos)) none pos2) (rRaise C [] rNil) := by
  refine ps_weak (ps_raise gd.calm gd.tk (pmk_nil T (gd.hr.mono hk) hg hdb)) fun D σ H ⟨γ, α, F, μ, δ, w, s, q⟩ => ?_
  exact q α F H σ _ _ (List.prefix_refl _) (Same.refl F) w s ⟨rfl, .inl ⟨rfl, rfl, rfl⟩⟩
end
end DL

/-! isinstance(e, c) of a caught exception that may have fields -/
namespace PySem.W
variable {prog : Program} {w : World} {A : Around} {E : Value → Shared → Prop} {K : Frag} {D x : Addr} {ox : Obj} {od : Option Obj} {s : Shared} {b : Bool}
theorem dl_find {C : Addr} {name : Str} {a g : Value} (hc : (clsIn K C).isSome = true) (ha : findIn K (.ref C) name = some (some a)) (hg : specialIn K a "__get__" = some (some g)) (ht : takesIn K a = some true) : findObj K C od name = some (.bind g a) := by
  obtain ⟨cd, hc⟩ := Option.isSome_iff_exists.mp hc
  unfold findObj
  rw [hc, Option.bind_some, ha, Option.bind_some]
  simp [hg, ht]
theorem dl_class {Q : Option Value → Shared → Prop} (C : L2.ExcC K D) (X : K.In s.heap) (I : InstAt s.heap x ox D od) (h : Q (some (.ref D)) { s with toks := s.toks + 1 }) : wpAny (model prog w) A (getAttr? (.ref x) "__class__") Q E s := by
  have hf : findObj K D od "__class__" = some (.bind (.builtin "getset_descriptor.__get__") (.builtin "object.__class__")) := dl_find (by obtain ⟨cd, hc, _⟩ := any_some C.hd; rw [hc]; rfl) C.ha C.hn C.ht
  obtain ⟨hp, g, d, t, os⟩ := s
  have L0 := I.type (M := model prog w)
  have L1 := looks_findIn (M := model prog w) X C.hg
  have L2 := looks_findIn (M := model prog w) X C.hk
  have L3 := looks_find (M := model prog w) X I hf
  have sub : Looks (model prog w) hp (isInstance (.ref x) (.type "BaseException")) true := L0.andThen (looks_subIn X C.hs)
  have hx0 : (false && onTheHeap (Value.builtin "BaseException.__getattribute__")) = false := rfl
  have hx2 : (Value.builtin "BaseException.__getattribute__" == Value.builtin "object.__getattribute__") = false := by decide +kernel
  have hx1 : (onTheHeap (Value.ref D) && Value.builtin "BaseException.__getattribute__" == Value.builtin "object.__getattribute__") = false := by rw [hx2]; rfl
  unfold getAttr? getAttrBy? getAttrBy
  refine wpAny_bind (wpAny_mkText (wpAny_bind (wpAny_attempt (wpAny_holding (wpAny_bind (L0.at (wpAny_bind (L1.at ?_))))))))
  show wpAny _ _ (if (onTheHeap (Value.ref D) && Value.builtin "BaseException.__getattribute__" == Value.builtin "object.__getattribute__") = true then _ else _) _ _ _
  rw [hx1, if_neg Bool.false_ne_true]
  unfold getAttrByItsOwn hookBefore
  refine wpAny_bind ?_
  rw [if_pos (show onTheHeap (Value.ref D) = true from rfl)]
  refine L2.at ?_
  refine wpAny_bind (wpAny_attempt (wpAny_holding ?_))
  unfold callGetattribute
  rw [hx0, if_neg Bool.false_ne_true]
  unfold boundAndCalled
  rw [PySem.F.excAttr_ValueError.ga.bind (.ref x)]
  refine wpAny_bind (wpAny_pure ?_)
  show wpAny _ _ (call (.builtin "BaseException.__getattribute__") [.ref x, .str "__class__" t]) _ _ _
  refine wpAny_call (codeAny_call_builtin PySem.F.excAttr_ValueError.ga.plain PySem.F.entry_bexc_ga ?_)
  refine @check_slot (model prog w) _ _ ⟨hp, g, d, t + 1, os⟩ "BaseException.__getattribute__" "BaseException" "__getattribute__" (.ref x) [.str "__class__" t] [] _ (by decide +kernel) (by decide +kernel) sub (PySem.F.args_bexc_ga (.ref x) (.str "__class__" t)) ?_
  unfold Builtin.«object.__getattribute__»
  refine wpAny_bind (wpAny_of_eq (a := ((Value.ref x : Value), [Value.str "__class__" t])) (by first | rfl | (simp only [slotArgs]; rfl)) ?_)
  refine wpAny_bind (wpAny_pure (wpAny_bind (L0.at (wpAny_bind (L3.at ?_)))))
  show wpAny _ _ (holding [Value.builtin "object.__class__"] (call (.builtin "getset_descriptor.__get__") [.builtin "object.__class__", .ref x, .ref D]) >>= ret) _ _ _
  refine wpAny_bind (wpAny_holding (wpAny_call (class_get (s := ⟨hp, g, d, t + 1, os⟩) (ox := ox) (od := od) X I C.hm ?_)))
  refine wpAny_pure ?_
  show wpAny _ _ (handedOut (.ref D)) _ _ _
  rw [handedOut_of (v := .ref D) rfl]
  first
    | exact wpAny_pure (wpAny_pure h)
    | exact wpAny_pure h
    | exact wpAny_pure (wpAny_bind (wpAny_pure (wpAny_pure h)))
theorem dl_kit (C : L2.ExcC K D) : KitX K (.ref x) (.ref D) (fun h => InstAt h x ox D od) where
  ty := fun _ _ _ I => I.type
  it := fun _ _ X _ => by
    obtain ⟨cdD, hcD, _⟩ := any_some C.hd
    unfold clsIn at hcD
    split at hcD
    · rename_i c' d' cd' sl' ho
      intro A' Q' E' s' k q
      unfold isType loadHead
      exact wpAny_bind (wpAny_loadPart (k _ _ (X _ _ ho)) (wpAny_pure q))
    · cases hcD
  ne := fun h tp dd its n sl X htp => by
    obtain ⟨cdD, hcD, _⟩ := any_some C.hd
    refine Bool.eq_false_iff.mpr fun q => ?_
    have e : D = tp := Value.ref.inj (beq_iff_eq.mp q)
    subst e
    unfold clsIn at hcD
    split at hcD
    · rename_i c' d' cd' sl' ho
      have z := (X _ _ ho).symm.trans htp
      cases z
    · cases hcD
  ca := fun X I k => dl_class C X I k
end PySem.W
namespace DL
open PySem L2 PyProof.Rows
theorem call_isX {X : Cx} {a D : Addr} {oe : Obj} {d : Option Addr} {pn : List (Addr × Obj)} (C : ExcC X.K D) (hz : Zc (.ref D) d oe) (hf : ∃ vs, oe.data = .fields vs) {pins : List (Addr × Obj)} {σ : L2.St} {H : Hp} {s : Shared} {c : Value} {b : Bool} {Q : Value → Shared → Prop} {E : Value → Shared → Prop}
    (I : Inv (X.suite a ((a, oe) :: pn)) pins σ H s) (hd : ∀ dd, d = some dd → ∃ fv, H dd = some (.xd fv)) (e : PySem.W.kitOne X.K (.ref D) c = some b) (q : ∀ s', Inv (X.suite a ((a, oe) :: pn)) pins σ H s' → Q (.bool b) s') : wpAny (model X.prog X.w) (X.suite a ((a, oe) :: pn)).A (call (.builtin "isinstance") [.ref a, c]) Q E s := by
  obtain ⟨hget, _⟩ := I.pin (a, oe) (List.mem_append.mpr (.inl List.mem_cons_self))
  obtain ⟨vs, hv⟩ := hf
  have J : ∃ od, PySem.W.InstAt s.heap a oe D od := by
    obtain ⟨oc, odd, oda, osl⟩ := oe
    obtain ⟨h1, h2⟩ := hz
    dsimp only at h1 h2 hv
    subst h1 h2 hv
    cases odd with
    | none => exact ⟨none, hget, rfl, rfl, trivial⟩
    | some dd =>
      obtain ⟨fv, hdd⟩ := hd dd rfl
      have z : ObjOk X.prog X.w H s.heap dd (.xd fv) := I.hok dd _ hdd
      obtain ⟨mA, ⟨o, es, ep, ho, _⟩, _⟩ := z
      exact ⟨some o, hget, rfl, rfl, ho⟩
  obtain ⟨od, J⟩ := J
  exact PySem.W.kia_one (PySem.W.dl_kit C) I.kIn J e (fun z => nomatch z) fun tk => q _ (I.kept (t' := tk) fun _ _ z => z)
end DL

/-! The data layer, s: try: body, except clauses with and without names. -/
namespace DL
open PySem L2 PyProof.Rows
abbrev TX := Addr → Value → Option Addr → TS
def unE (D : Ends) (i : Nat) : Ends := { nx := fun σ' H' => D.nx (σ'.set i none) H', rt := D.rt, bk := fun σ' H' => D.bk (σ'.set i none) H', ct := fun σ' H' => D.ct (σ'.set i none) H' }
/-- one clause: the class, its name's slot, the suite -/
structure Cl where
  c : Value
  i : Option Nat
  ts : TX
def wMix (K : PySem.W.Frag) (n : Nat) (Wout : WX) (D : Ends) : List Cl → WX
  | [] => Wout
  | k :: r => fun cls d σ H => ∃ b, PySem.W.exmOne K cls k.c = some b ∧
      (b = true → σ.length = n → ∀ a, H a = none → match k.i with
        | none => k.ts a cls d D σ H
        | some i => k.ts a cls d (unE D i) (σ.set i (some (.ref a))) H) ∧ (b = false → wMix K n Wout D r cls d σ H)
inductive HdX (X : Cx) : List ExceptHandler → List Cl → Prop
  | nil : HdX X [] []
  | bare {x : Str} {c : Value} {ts : TX} {b₀ : Stmt} {suite : List Stmt} {np pos' : Pos} {hds : List ExceptHandler} {l : List Cl} (hc : Names X x c)
      (hsu : ∀ (a : Addr) (oe : Obj) (cls : Value) (d : Option Addr) (pn : List (Addr × Obj)), Zc cls d oe → (∃ vs, oe.data = .fields vs) → PSs (X.suite a ((a, oe) :: pn)) (b₀ :: suite) (ts a cls d)) (r : HdX X hds l) :
      HdX X (.ExceptHandler (some (.Name x np)) none (b₀ :: suite) pos' :: hds) (⟨c, none, ts⟩ :: l)
  | named {x n : Str} {i : Nat} {c : Value} {ts : TX} {b₀ : Stmt} {suite : List Stmt} {np pos' : Pos} {hds : List ExceptHandler} {l : List Cl} (hc : Names X x c) (hi : X.N[i]? = some n) (hln : X.env.kindOf n = some .local)
      (hsu : ∀ (a : Addr) (oe : Obj) (cls : Value) (d : Option Addr) (pn : List (Addr × Obj)), Zc cls d oe → (∃ vs, oe.data = .fields vs) → PSs (X.suite a ((a, oe) :: pn)) (b₀ :: suite) (ts a cls d)) (r : HdX X hds l) :
      HdX X (.ExceptHandler (some (.Name x np)) (some n) (b₀ :: suite) pos' :: hds) (⟨c, some i, ts⟩ :: l)
section
variable {X : Cx} {body : List Stmt} {h₀ : ExceptHandler} {hds : List ExceptHandler} {l : List Cl} {pos : Pos} {tb : WX → TS} {Wout : WX}
theorem ps_try_mix (hs : X.stack = X.env :: X.outer) (hf : X.env.frame = some X.env.locals) (hN : X.N.Nodup) (tk : Takes X Wout)
    (hb : ∀ (W : WX) (pn : List (Addr × Obj)) (xe : Value → Shared → Prop), Takes (X.tr pn xe) W → PassesOwn (model X.prog X.w) X.A X.env xe → PSs (X.tr pn xe) body (tb W))
    (hh : HdX X (h₀ :: hds) l) : PS X (.Try body (h₀ :: hds) [] [] pos) (fun D σ H => tb (wMix X.K X.N.length Wout D l) D σ H) := by
  refine ⟨fun pins s σ H D I h => ?_⟩
  have ok := I.ok
  have hfr : X.A.frames = some (X.env :: X.outer) := by rw [ok.frames, hs]
  refine wpAny_Try_except ?_
  refine wpAny_mono ((hb (wMix X.K X.N.length Wout D l) (X.pn ++ pins) (fun e s₁ => wpAny (model X.prog X.w) X.A (noteFrame e X.env) (fun _ s₂ => wpAny (model X.prog X.w) X.A (setFlight e none) (fun _ s₃ =>
    wpAny (model X.prog X.w) X.A (handleBy e X.env (h₀ :: hds)) (SP X pins D) X.xe s₃) X.xe s₂) X.xe s₁) (fun u s' xx => ?_) PassesOwn.looking).run [] s σ H D (I.toTry _) h) (fun f s1 hsp => ?_) (fun e s1 he => he)
  · obtain ⟨a, B, sI, pins', σ', H', cls, d, rfl, J', nb, up, sky, na, os, ag, w⟩ := xx
    have J : Inv X pins σ' H' sI := J'.ofTry ok
    have sky' : Sky B (X.env :: X.outer) a (Zc cls d) X.env.locals s'.heap := by rw [← hs]; exact sky
    show wpAny (model X.prog X.w) X.A (noteFrame (.ref a) X.env) _ _ _
    refine Sky.land Zc.steady hfr hf sky' fun h3 fl3 up3 => ?_
    have J3 : Inv X pins σ' H' { s' with heap := h3 } := J.landed nb fl3.1 (up.trans up3) os ag
    obtain ⟨oe3, vs3, he3, hz3, hd3⟩ := fl3.there
    have notFr : ∀ {h : Heap} {o : Obj} {vs : Array Value}, h.FunFrames B (X.env :: X.outer) → h.get? a = some o → o.data = .fields vs → a ∉ frs (X.env :: X.outer) := fun {h o vs} ff e dd hm => by
      obtain ⟨_, o', e', hnf⟩ := ff.mem hm
      rw [e] at e'; cases e'
      exact hnf _ dd
    have nfr := notFr fl3.2.2.1 he3 hd3
    have nL : a ≠ X.env.locals := fun z => nfr (List.mem_filterMap.mpr ⟨X.env, List.mem_cons_self, by rw [hf, z]⟩)
    have nF : a ∉ X.fs := fun hm => by
      obtain ⟨e, he, q⟩ := List.mem_filterMap.mp hm
      exact nfr (List.mem_filterMap.mpr ⟨e, List.mem_cons_of_mem _ he, q⟩)
    have S3 := J3.suite he3 hd3 na nL nF
    have LT : PySem.W.Looks (model X.prog X.w) h3 (typeOf (.ref a)) cls := fun A Q E s k q => wpAny_typeOf_ref (k _ _ he3) (by rw [hz3.1]; exact q)
    have go : ∀ {hds' : List ExceptHandler} {l' : List Cl}, HdX X hds' l' → wMix X.K X.N.length Wout D l' cls d σ' H' →
        wpAny (model X.prog X.w) X.A (handleBy (.ref a) X.env hds') (SP X pins D) X.xe { s' with heap := h3 } := by
      intro hds' l' hk
      induction hk with
      | nil =>
        intro w
        refine wpAny_handleBy_nil ?_
        obtain ⟨k1, k2, k3, oe, vs, T, oT, ts', he, hz, hd, h1, hr⟩ := id fl3
        unfold PySem.passOn
        refine wpAny_bind (wpAny_field he hd h1 ?_)
        rw [if_neg (show ¬ ((Value.ref T == Value.none) = true) from by simp)]
        have fin : wpAny (model X.prog X.w) X.A (setFlight (.ref a) X.env.frame) (fun _ s4 => wpAny (model X.prog X.w) X.A (throw (.ref a) : Sem Flow) (SP X pins D) X.xe s4) X.xe { s' with heap := h3 } := by
          rw [hf]
          refine HandSPX.setFlight_upZ fl3 fun h4 hh4 up4 => wpAny_throw (tk _ _ ?_)
          exact ⟨a, B, sI, pins, σ', H', cls, d, rfl, J, nb, (up.trans up3).trans up4, .inr (.inr (by rw [hs]; exact hh4)), na, os, ag, w⟩
        first
          | exact wpAny_bind (wpAny_pure (wpAny_bind fin))
          | exact wpAny_bind fin
      | @bare x c ts b₀ suite np pos' hds2 l2 hc hsu r ih =>
        intro w
        obtain ⟨b, hb1, hyes, hno⟩ := w
        refine wpAny_handleBy_cons (codeAny_handlers_test ?_) (by intro q; cases q)
        have LM := PySem.W.exm_one (M := model X.prog X.w) (J3.kIn) LT hb1
        have test : ∀ {Q : Value → Shared → Prop} {E : Value → Shared → Prop}, Q c { s' with heap := h3 } → wpAny (model X.prog X.w) (X.A.mark (some (.ref a))) (eval (.Name x np) X.env) Q E { s' with heap := h3 } := fun {Q E} q => by
          obtain ⟨hg, hdbg, hm | ⟨hm, hv, hnn⟩⟩ := hc
          · exact ld_glob (X := X.suite a ((a, oe3) :: (X.pn ++ pins))) S3 hg hm q hdbg
          · exact ld_blt (X := X.suite a ((a, oe3) :: (X.pn ++ pins))) S3 hg hm hv q hnn hdbg
        refine test (LM.here ?_)
        cases b with
        | true =>
          refine codeAny_handlers_suite ?_
          refine HandSPX.lands_againZ fl3 fun h4 fl4 up4 => ?_
          have J4 : Inv X pins σ' H' { s' with heap := h4 } := J.landed nb fl4.1 ((up.trans up3).trans up4) os ag
          obtain ⟨oe4, vs4, he4, hz4, hd4⟩ := fl4.there
          have S4 := J4.suite he4 hd4 na nL nF
          refine wpAny_mono ((hsu a oe4 cls d (X.pn ++ pins) hz4 ⟨_, hd4⟩).run [] _ _ H' _ S4 (hyes rfl J4.len a na)) (fun f s6 hsp => ?_) (fun _ _ z => False.elim z)
          cases f with
          | next =>
            obtain ⟨σ6, H6, S6, q6⟩ := hsp
            exact ⟨_, _, S6.unsuite ok, q6⟩
          | brk =>
            obtain ⟨σ6, H6, S6, q6⟩ := hsp
            exact ⟨_, _, S6.unsuite ok, q6⟩
          | cont =>
            obtain ⟨σ6, H6, S6, q6⟩ := hsp
            exact ⟨_, _, S6.unsuite ok, q6⟩
          | ret u =>
            obtain ⟨v6, σ6, H6, S6, r6, q6⟩ := hsp
            exact ⟨_, _, _, S6.unsuite ok, r6, q6⟩
        | false =>
          show wpAny _ X.A (handleBy (.ref a) X.env hds2) _ _ _
          exact ih (hno rfl)
      | @named x n i c ts b₀ suite np pos' hds2 l2 hc hi hln hsu r ih =>
        intro w
        obtain ⟨b, hb1, hyes, hno⟩ := w
        refine wpAny_handleBy_cons (codeAny_handlers_test ?_) (by intro q; cases q)
        have LM := PySem.W.exm_one (M := model X.prog X.w) (J3.kIn) LT hb1
        have test : ∀ {Q : Value → Shared → Prop} {E : Value → Shared → Prop}, Q c { s' with heap := h3 } → wpAny (model X.prog X.w) (X.A.mark (some (.ref a))) (eval (.Name x np) X.env) Q E { s' with heap := h3 } := fun {Q E} q => by
          obtain ⟨hg, hdbg, hm | ⟨hm, hv, hnn⟩⟩ := hc
          · exact ld_glob (X := X.suite a ((a, oe3) :: (X.pn ++ pins))) S3 hg hm q hdbg
          · exact ld_blt (X := X.suite a ((a, oe3) :: (X.pn ++ pins))) S3 hg hm hv q hnn hdbg
        refine test (LM.here ?_)
        cases b with
        | true =>
          refine codeAny_handlers_suite_as ?_
          refine HandSPX.lands_againZ fl3 fun h4 fl4 up4 => ?_
          have J4 : Inv X pins σ' H' { s' with heap := h4 } := J.landed nb fl4.1 ((up.trans up3).trans up4) os ag
          obtain ⟨oe4, vs4, he4, hz4, hd4⟩ := fl4.there
          have S4 := J4.suite he4 hd4 na nL nF
          refine store_ok (X := X.suite a ((a, oe4) :: (X.pn ++ pins))) (v := .ref a) S4 hN hi (.inl hln) rfl (fun s5 S5 => ?_) (.inr hln)
          refine wpAny_mono ((hsu a oe4 cls d (X.pn ++ pins) hz4 ⟨_, hd4⟩).run [] s5 _ H' _ S5 (hyes rfl J4.len a na)) (fun f s6 hsp => ?_) (fun _ _ z => False.elim z)
          have end_ : ∀ {σ6 : L2.St} {H6 : Hp} {Q : Shared → Prop}, Inv (X.suite a ((a, oe4) :: (X.pn ++ pins))) [] σ6 H6 s6 → (∀ s7, Inv X pins (σ6.set i none) H6 s7 → Q s7) →
              wpAny (model X.prog X.w) X.A (do bindName X.env n .none; unbindBehindTheSuite X.env n pos') (fun _ s7 => Q s7) X.xe s6 := fun {σ6 H6 Q} S6 hq => gone_ok (S6.unsuite ok) hN hi hln hq
          cases f with
          | next =>
            obtain ⟨σ6, H6, S6, q6⟩ := hsp
            exact end_ S6 fun s7 J7 => ⟨_, _, J7, q6⟩
          | brk =>
            obtain ⟨σ6, H6, S6, q6⟩ := hsp
            exact end_ S6 fun s7 J7 => ⟨_, _, J7, q6⟩
          | cont =>
            obtain ⟨σ6, H6, S6, q6⟩ := hsp
            exact end_ S6 fun s7 J7 => ⟨_, _, J7, q6⟩
          | ret u =>
            obtain ⟨v6, σ6, H6, S6, r6, q6⟩ := hsp
            exact end_ S6 fun s7 J7 => ⟨_, _, _, J7, r6, q6⟩
        | false =>
          show wpAny _ X.A (handleBy (.ref a) X.env hds2) _ _ _
          exact ih (hno rfl)
    exact go hh w
  · cases f with
    | next =>
      obtain ⟨σ', H', J', q⟩ := hsp
      exact wpAny_execs_nil ⟨σ', H', J'.ofTry ok, q⟩
    | brk =>
      obtain ⟨σ', H', J', q⟩ := hsp
      exact ⟨σ', H', J'.ofTry ok, q⟩
    | cont =>
      obtain ⟨σ', H', J', q⟩ := hsp
      exact ⟨σ', H', J'.ofTry ok, q⟩
    | ret u =>
      obtain ⟨v, σ', H', J', r, q⟩ := hsp
      exact ⟨v, σ', H', J'.ofTry ok, r, q⟩
end
end DL

/-! The data layer, t: try as a reading; what stands in an except suite. -/
namespace DL
open PySem L2 PyProof.Rows
structure Hd where
  m : Value → Option Bool
  i : Option Nat
  s : Exn → RS
/-- slot i is forgotten behind a suite -/
def unS (i : Option Nat) (r : SO) : SO := match r with
  | .nx δ μ => .nx (match i with | some i => δ.set i none | none => δ) μ
  | .rt d μ => .rt d μ
  | _ => .bad
def handle : List Hd → Exn → RS
  | [], x => fun δ μ => .exc x δ μ
  | h :: r, x => fun δ μ => match h.m x.cls with
    | some true => unS h.i (h.s x (match h.i with | some i => δ.set i none | none => δ) μ)
    | some false => handle r x δ μ
    | none => .bad
def rTry (f : RS) (hs : List Hd) : RS := fun δ μ => match f δ μ with
  | .exc x δ1 μ1 => handle hs x δ1 μ1
  | r => r
/-- a suite's reading -/
def tXS (K : PySem.W.Frag) (i : Option Nat) (s : Exn → RS) : TX := fun a cls d D σ H => ∃ γ α F μ δ x, Wd K γ α F H μ ∧ SlIs K α F σ δ ∧ XIs K α F x cls d ∧ (∀ j, i = some j → σ[j]? = some (some (.ref a))) ∧ FinS K γ α F (s x δ μ) D W0
def PXS (X : Cx) (i : Option Nat) (st : List Stmt) (s : Exn → RS) : Prop := ∀ (a : Addr) (oe : Obj) (cls : Value) (d : Option Addr) (pn : List (Addr × Obj)), Zc cls d oe → (∃ vs, oe.data = .fields vs) → PSs (X.suite a ((a, oe) :: pn)) st (tXS X.K i s a cls d)
inductive HdD (X : Cx) : List ExceptHandler → List Hd → Prop
  | nil : HdD X [] []
  | bare {x : Str} {c : Value} {m : Value → Option Bool} {s : Exn → RS} {b₀ : Stmt} {suite : List Stmt} {np pos' : Pos} {hds : List ExceptHandler} {l : List Hd} (hc : Names X x c) (hm : ∀ cls b, m cls = some b → PySem.W.exmOne X.K cls c = some b)
      (hsu : PXS X none (b₀ :: suite) s) (r : HdD X hds l) : HdD X (.ExceptHandler (some (.Name x np)) none (b₀ :: suite) pos' :: hds) (⟨m, none, s⟩ :: l)
  | named {x n : Str} (i : Nat) {c : Value} {m : Value → Option Bool} {s : Exn → RS} {b₀ : Stmt} {suite : List Stmt} {np pos' : Pos} {hds : List ExceptHandler} {l : List Hd} (hc : Names X x c) (hm : ∀ cls b, m cls = some b → PySem.W.exmOne X.K cls c = some b)
      (hi : X.N[i]? = some n) (hln : X.env.kindOf n = some .local) (hsu : PXS X (some i) (b₀ :: suite) s) (r : HdD X hds l) : HdD X (.ExceptHandler (some (.Name x np)) (some n) (b₀ :: suite) pos' :: hds) (⟨m, some i, s⟩ :: l)
theorem HdD.lift {X : Cx} {hds : List ExceptHandler} {l : List Hd} (h : HdD X hds l) : ∃ l' : List Cl, HdX X hds l' ∧ ∀ (W : WX) (D : Ends) (γ : Hp) (α : List Addr) (F : Hp) (x : Exn) (δ : Sl) (μ : List Ob), FinS X.K γ α F (handle l x δ μ) D W →
    ∀ α' F' H' σ' c dd, α <+: α' → Same F F' → Wd X.K γ α' F' H' μ → SlIs X.K α' F' σ' δ → XIs X.K α' F' x c dd → wMix X.K X.N.length W D l' c dd σ' H' := by
  induction h with
  | nil => exact ⟨[], .nil, fun W D γ α F x δ μ q α' F' H' σ' c dd p e w s hx => q α' F' H' σ' c dd p e w s hx⟩
  | @bare x0 c0 m s b₀ suite np pos' hds l hc hm hsu r ih =>
    obtain ⟨l', h1, h2⟩ := ih
    refine ⟨⟨c0, none, tXS X.K none s⟩ :: l', .bare hc hsu h1, fun W D γ α F x δ μ q α' F' H' σ' c dd p e w sl hx => ?_⟩
    unfold handle at q
    dsimp only at q
    obtain ⟨rfl, hx2⟩ := id hx
    cases hm1 : m x.cls with
    | none => rw [hm1] at q; exact q.elim
    | some b =>
      rw [hm1] at q
      refine ⟨b, hm _ _ hm1, fun hb hl a na => ?_, fun hb => ?_⟩
      · subst hb
        refine ⟨γ, α', F', μ, δ, x, w, sl, hx, (fun j hj => by cases hj), ?_⟩
        have q : FinS X.K γ α F (unS none (s x δ μ)) D W := q
        cases hs : s x δ μ with
        | nx δ2 μ2 => rw [hs] at q; exact fun α2 F2 H2 σ2 p2 e2 w2 s2 => q α2 F2 H2 σ2 (p.trans p2) (e.trans e2) w2 s2
        | rt d2 μ2 => rw [hs] at q; exact fun α2 F2 H2 v2 p2 e2 w2 s2 => q α2 F2 H2 v2 (p.trans p2) (e.trans e2) w2 s2
        | _ => rw [hs] at q; exact q.elim
      · subst hb
        exact h2 W D γ α F x δ μ q α' F' H' σ' _ dd p e w sl hx
  | @named x0 n i c0 m s b₀ suite np pos' hds l hc hm hi hln hsu r ih =>
    obtain ⟨l', h1, h2⟩ := ih
    refine ⟨⟨c0, some i, tXS X.K (some i) s⟩ :: l', .named hc hi hln hsu h1, fun W D γ α F x δ μ q α' F' H' σ' c dd p e w sl hx => ?_⟩
    unfold handle at q
    dsimp only at q
    obtain ⟨rfl, hx2⟩ := id hx
    cases hm1 : m x.cls with
    | none => rw [hm1] at q; exact q.elim
    | some b =>
      rw [hm1] at q
      refine ⟨b, hm _ _ hm1, fun hb hl a na => ?_, fun hb => ?_⟩
      · subst hb
        have il : i < σ'.length := by
          rw [hl]
          exact (List.getElem?_eq_some_iff.mp hi).1
        have sl2 : SlIs X.K α' F' (σ'.set i (some (.ref a))) (δ.set i none) := by
          refine ⟨by rw [List.length_set, List.length_set]; exact sl.len, fun j e2 q2 => ?_⟩
          by_cases hj : j = i
          · subst hj
            rw [List.getElem?_set_self (by rw [← sl.len]; exact il)] at q2
            cases q2
          · rw [List.getElem?_set_ne (Ne.symm hj)] at q2 ⊢
            exact sl.at_ j e2 q2
        refine ⟨γ, α', F', μ, δ.set i none, x, w, sl2, hx, fun j hj => by cases hj; exact List.getElem?_set_self il, ?_⟩
        have q : FinS X.K γ α F (unS (some i) (s x (δ.set i none) μ)) D W := q
        cases hs : s x (δ.set i none) μ with
        | nx δ2 μ2 => rw [hs] at q; exact fun α2 F2 H2 σ2 p2 e2 w2 s2 => q α2 F2 H2 (σ2.set i none) (p.trans p2) (e.trans e2) w2 (s2.unset i)
        | rt d2 μ2 => rw [hs] at q; exact fun α2 F2 H2 v2 p2 e2 w2 s2 => q α2 F2 H2 v2 (p.trans p2) (e.trans e2) w2 s2
        | _ => rw [hs] at q; exact q.elim
      · subst hb
        exact h2 W D γ α F x δ μ q α' F' H' σ' _ dd p e w sl hx
theorem psd_try {X : Cx} {W : WX} {k : Nat} {body : List Stmt} {h₀ : ExceptHandler} {hds : List ExceptHandler} {l : List Hd} {pos : Pos} {fb : RS} (g : Good X W k) (hb : ∀ (W' : WX) (pn : List (Addr × Obj)) (xe : Value → Shared → Prop), Good (X.tr pn xe) W' k → PSDs (X.tr pn xe) W' body fb)
    (hh : HdD X (h₀ :: hds) l) (hs : X.stack = X.env :: X.outer := by rfl) (hf : X.env.frame = some X.env.locals := by rfl) : PSD X W (.Try body (h₀ :: hds) [] [] pos) (rTry fb l) := by
  obtain ⟨l', h1, h2⟩ := hh.lift
  refine ⟨fun pins s σ H D I hq => ?_⟩
  refine (ps_try_mix (tb := fun W' => tSD X.K W' fb) hs hf g.nd g.tk (fun W' pn xe tk po => hb W' pn xe ⟨g.hr, g.calm, g.nd, tk, po⟩) h1).run pins s σ H D I ?_
  obtain ⟨γ, α, F, μ, δ, w, s1, q⟩ := hq
  refine ⟨γ, α, F, μ, δ, w, s1, ?_⟩
  unfold rTry at q
  cases hr : fb δ μ with
  | exc x δ1 μ1 =>
    rw [hr] at q
    intro α' F' H' σ' c dd p e w' s' hx
    exact h2 W D γ α F x δ1 μ1 q α' F' H' σ' c dd p e w' s' hx
  | nx δ1 μ1 => rw [hr] at q; exact q
  | rt d1 μ1 => rw [hr] at q; exact q
  | bk δ1 μ1 => rw [hr] at q; exact q
  | ct δ1 μ1 => rw [hr] at q; exact q
  | bad => rw [hr] at q; exact q
end DL

/-! The data layer, u: expressions and statements of an except suite. -/
namespace DL
open PySem L2 PyProof.Rows
abbrev GX := Exn → Option D
def tXE (K : PySem.W.Frag) (i : Option Nat) (g : GX) (a : Addr) (cls : Value) (d : Option Addr) : TE := fun σ H Q => ∃ γ α F μ x dd, Wd K γ α F H μ ∧ XIs K α F x cls d ∧ (∀ j, i = some j → σ[j]? = some (some (.ref a))) ∧ g x = some dd ∧
  ∀ α' F' H' v, α <+: α' → Same F F' → Wd K γ α' F' H' μ → Is K α' F' v dd → Q v H'
def PXE (X : Cx) (i : Option Nat) (e : Expr) (g : GX) : Prop := ∀ (a : Addr) (oe : Obj) (cls : Value) (d : Option Addr) (pn : List (Addr × Obj)), Zc cls d oe → (∃ vs, oe.data = .fields vs) → PE (X.suite a ((a, oe) :: pn)) e (tXE X.K i g a cls d)
def gC (d : D) : GX := fun _ => some d
section
variable {X : Cx} {i : Option Nat} {e e1 e2 : Expr} {g g1 g2 : GX} {pos p p1 p2 : Pos} {nm f : Str} {j : Nat} {C : Addr}
theorem pxe_c {v : V} {d : D} (h : ∀ Y : Cx, PE Y e (tC v)) (hv : ∀ K α F, Is K α F v d) : PXE X i e (gC d) := fun a oe cls dd pn _ _ =>
  pe_weak (h _) fun σ H Q ⟨γ, α, F, μ, x, d2, w, _, _, hg, q⟩ => by
    cases hg
    exact q α F H v (List.prefix_refl _) (Same.refl F) w (hv _ _ _)
theorem pxe_int {k : Int} {n : Nat} : PXE X i (.Constant (.int k) n pos) (gC (.int k)) := pxe_c (fun _ => pe_int) fun _ _ _ => .int k
theorem pxe_str {k : Str} {n : Nat} : PXE X i (.Constant (.str k) n pos) (gC (.str k)) := pxe_c (fun _ => pe_str) fun _ _ _ => .str k
theorem pxe_non {n : Nat} : PXE X i (.Constant .none n pos) (gC .non) := pxe_c (fun _ => pe_non) fun _ _ _ => .non
theorem pxe_bl {k : Bool} {n : Nat} : PXE X i (.Constant (.bool k) n pos) (gC (.bl k)) := pxe_c (fun _ => pe_bl) fun _ _ _ => .bl k
/-- err.f -/
def gFld (C : Addr) (f : Str) : GX := fun x => if x.cls = .ref C then lookD x.fs x.xs f else none
theorem pxe_fld (T : XfC X.K C) (hno : PySem.W.findIn X.K (.ref C) f = some none) (hj : X.N[j]? = some nm := by rfl) (hl : X.env.scope.names.lookup nm = some .local := by rfl) (hd : (nm == ("__debug__" : Str)) = false := by decide) (hcd : (nm == ("__classdict__" : Str)) = false := by decide)
    (hb : attributeBase (.Name nm p) f X.env (eval (.Name nm p) X.env) = eval (.Name nm p) X.env := by rfl) : PXE X (some j) (.Attribute (.Name nm p) f pos) (gFld C f) := fun a oe cls dd pn hz hf =>
  pe_weak (pe_xf T hno hz hf (pe_var (i := j) hj (.inl hl) hd hcd) hb) fun σ H Q ⟨γ, α, F, μ, x, d2, w, hx, hs, hg, q⟩ => by
    unfold gFld at hg
    split at hg
    · rename_i hcx
      refine ⟨.ref a, hs j rfl, rfl, ?_⟩
      obtain ⟨h1, h2⟩ := hx
      refine ⟨h1.trans hcx, ?_⟩
      rcases h2 with ⟨_, h3, h4⟩ | ⟨d, fv, rfl, h4, h5, h6⟩
      · rw [h3, h4] at hg
        simp [lookD] at hg
      · rw [← h5] at hg
        obtain ⟨v, k1, k2⟩ := look_val' h6 hg
        exact ⟨d, fv, v, rfl, w.sub _ _ h4, by rw [lookup_val]; exact k1, q α F H v (List.prefix_refl _) (Same.refl F) w k2⟩
    · cases hg
/-- (a, b) -/
def gTup2 (g1 g2 : GX) : GX := fun x => (g1 x).bind fun d => (g2 x).bind fun e => some (.tup [d, e])
theorem pxe_tup2 {n : Nat} (h1 : PXE X i e1 g1) (h2 : PXE X i e2 g2) (hs1 : starEach [e1, e2] X.env = (false, eval e1 X.env) :: starEach [e2] X.env := by rfl) (hs2 : starEach [e2] X.env = (false, eval e2 X.env) :: starEach [] X.env := by rfl) : PXE X i (.Tuple [e1, e2] n pos) (gTup2 g1 g2) := fun a oe cls dd pn hz hf =>
  pe_weak (pe_tup (pa_cons (h1 a oe cls dd pn hz hf) (pa_cons (h2 a oe cls dd pn hz hf) pa_nil hs2) hs1)) fun σ H Q ⟨γ, α, F, μ, x, d2, w, hx, hs, hg, q⟩ => by
    unfold gTup2 at hg
    cases k1 : g1 x with
    | none => rw [k1] at hg; cases hg
    | some da =>
      cases k2 : g2 x with
      | none => rw [k1, k2] at hg; cases hg
      | some db =>
        rw [k1, k2] at hg
        cases hg
        refine ⟨γ, α, F, μ, x, da, w, hx, hs, k1, fun α1 F1 H1 v1 p1 s1 w1 i1 => ?_⟩
        refine ⟨γ, α1, F1, μ, x, db, w1, hx.mono p1 s1, hs, k2, fun α2 F2 H2 v2 p2 s2 w2 i2 => ?_⟩
        refine ⟨by rw [sizeLine_eq]; simp, fun pa np => ?_⟩
        have fr := w2.sub.free np
        refine q α2 (upd F2 pa (.tup [v1, v2])) _ _ (p1.trans p2) ((s1.trans s2).trans (same_new fr)) (w2.lay np) (.tup (.inl (.inl upd_same)) (.cons ((i1.mono p2 s2).mono (List.prefix_refl _) (same_new fr)) (.cons (i2.mono (List.prefix_refl _) (same_new fr)) .nil)))
/-- a if isinstance(err, C) else b, err of a class D that is told of -/
theorem pt_isX {y : Str} {cv : Value} {v : V} {ok : Value → Bool} (hN : ∀ cls, ok cls = true → ∃ D, cls = .ref D ∧ ExcC X.K D ∧ PySem.W.kitOne X.K (.ref D) cv = some true) (hm : X.mg "isinstance" = none) (hy : Gl X y) (hmy : X.mg y = some cv) (rv : RelV v cv) (ru : ∀ u, RelV v u → u = cv)
    (hdy : (y == ("__debug__" : Str)) = false) (hj : X.N[j]? = some nm) (hl : X.env.scope.names.lookup nm = some .local) (hd : (nm == ("__debug__" : Str)) = false) (hcd : (nm == ("__classdict__" : Str)) = false) (hg : Gl X "isinstance") {a : Addr} {oe : Obj} {cls : Value} {d : Option Addr} {pn : List (Addr × Obj)} (hz : Zc cls d oe) (hf : ∃ vs, oe.data = .fields vs)
    (he : starEach [.Name nm p1, .Name y p2] X.env = (false, eval (.Name nm p1) X.env) :: starEach [.Name y p2] X.env) (he2 : starEach [.Name y p2] X.env = (false, eval (.Name y p2) X.env) :: starEach [] X.env) (hpl : (backTo pos (starEach [.Name y p2] X.env)).any (·.1) = false)
    (hev : ∀ whole, isTrue (.Call (.Name "isinstance" p) [.Name nm p1, .Name y p2] [] pos) X.env whole = (do let v ← whole; standAt (Expr.Call (.Name "isinstance" p) [.Name nm p1, .Name y p2] [] pos).pos; holding [v] (truthy v))) :
    PT (X.suite a ((a, oe) :: pn)) (.Call (.Name "isinstance" p) [.Name nm p1, .Name y p2] [] pos) (fun σ H Q => ok cls = true ∧ σ[j]? = some (some (.ref a)) ∧ (∀ dd, d = some dd → ∃ fv, H dd = some (.xd fv)) ∧ Q true H) := by
  have hc : CallR (X.suite a ((a, oe) :: pn)) (.builtin "isinstance") (fun xs H Q => xs = [.ref a, v] ∧ ok cls = true ∧ (∀ dd, d = some dd → ∃ fv, H dd = some (.xd fv)) ∧ Q (.bl true) H) := by
    intro pins s σ H xs us Q I r h
    obtain ⟨rfl, ho, hdd, q⟩ := h
    cases r with
    | cons rx rr =>
      cases rr with
      | cons rt rr =>
        cases rr
        cases rx
        have ec := ru _ rt
        subst ec
        obtain ⟨D, rfl, hC, hk⟩ := hN _ ho
        exact call_isX hC hz hf I hdd hk fun s' J => ⟨.bl true, H, J, rfl, q⟩
  refine pt_weak (pt_val (pe_callB hc hg hm PyProof.Rows.boot_isinstance (pa_cons (pe_var (i := j) hj (.inl hl) hd hcd) (pa_cons (pe_glob hy hmy rv hdy) pa_nil he2) he) (by decide) (by decide) he hpl) hev) fun σ H Q ⟨ho, hs, hdd, q⟩ => ?_
  exact ⟨.ref a, hs, rfl, ho, hdd, true, rfl, q⟩
def gIs (ok : Value → Bool) (g1 : GX) : GX := fun x => if ok x.cls = true then g1 x else none
theorem pxe_if {y : Str} {c : Addr} {ok : Value → Bool} (hN : ∀ cls, ok cls = true → ∃ D, cls = .ref D ∧ ExcC X.K D ∧ PySem.W.kitOne X.K (.ref D) (.ref c) = some true) (hm : X.mg "isinstance" = none) (hmy : X.mg y = some (.ref c)) (h1 : PXE X (some j) e1 g1)
    (hy : Gl X y := by rfl) (hdy : (y == ("__debug__" : Str)) = false := by decide) (hj : X.N[j]? = some nm := by rfl) (hl : X.env.scope.names.lookup nm = some .local := by rfl) (hd : (nm == ("__debug__" : Str)) = false := by decide) (hcd : (nm == ("__classdict__" : Str)) = false := by decide) (hg : Gl X "isinstance" := by rfl)
    (he : starEach [.Name nm p1, .Name y p2] X.env = (false, eval (.Name nm p1) X.env) :: starEach [.Name y p2] X.env := by rfl) (he2 : starEach [.Name y p2] X.env = (false, eval (.Name y p2) X.env) :: starEach [] X.env := by rfl) (hpl : (backTo pos (starEach [.Name y p2] X.env)).any (·.1) = false := by rfl)
    (hev : ∀ whole, isTrue (.Call (.Name "isinstance" p) [.Name nm p1, .Name y p2] [] pos) X.env whole = (do let v ← whole; standAt (Expr.Call (.Name "isinstance" p) [.Name nm p1, .Name y p2] [] pos).pos; holding [v] (truthy v)) := by intro _; rfl) {pos2 : Pos} :
    PXE X (some j) (.IfExp (.Call (.Name "isinstance" p) [.Name nm p1, .Name y p2] [] pos) e1 e2 pos2) (gIs ok g1) := fun a oe cls dd pn hz hf =>
  pe_weak (pe_ifExp (pt_isX (v := .ref c) hN hm hy hmy rfl (fun u r => r) hdy hj hl hd hcd hg hz hf he he2 hpl hev) (h1 a oe cls dd pn hz hf) (tb := fun _ _ _ => False) ⟨fun _ _ _ _ _ _ z => z.elim⟩) fun σ H Q ⟨γ, α, F, μ, x, d2, w, hx, hs, hg, q⟩ => by
    unfold gIs at hg
    split at hg
    · rename_i hok
      refine ⟨by rw [hx.1]; exact hok, hs j rfl, fun d3 hd3 => ?_, ⟨γ, α, F, μ, x, d2, w, hx, hs, hg, q⟩⟩
      rcases hx.2 with ⟨h3, _⟩ | ⟨d4, fv, h3, h4, _⟩
      · rw [h3] at hd3; cases hd3
      · rw [h3] at hd3; cases hd3
        exact ⟨fv, w.sub _ _ h4⟩
    · cases hg
/-- n = e | return e -/
def sSet (n : Nat) (g : GX) : Exn → RS := fun x δ μ => match g x with
  | some d => .nx (δ.set n (some d)) μ
  | none => .bad
def sRet (g : GX) : Exn → RS := fun x _ μ => match g x with
  | some d => .rt d μ
  | none => .bad
theorem pxs_set (n : Nat) {y : Str} {pos' : Pos} (hN : X.N.Nodup) (h : PXE X i e g) (hne : ∀ k, i = some k → k ≠ n := by simp) (hi : X.N[n]? = some y := by rfl) (hx : X.env.scope.names.lookup y = some .local := by rfl) (hs : swapsWith e (some (.Name y pos')) pos.line X.env = pure false := by rfl) : PXS X i [.Assign [.Name y pos'] e pos] (sSet n g) := fun a oe cls d pn hz hf => by
  refine pss_one (ps_weak (ps_set (i := n) hN hi (.inl hx) (h a oe cls d pn hz hf) hs (.inr hx)) fun D σ H ⟨γ, α, F, μ, δ, x, w, s, hx, hsl, q⟩ => ?_)
  unfold sSet at q
  cases hg : g x with
  | none => rw [hg] at q; exact q.elim
  | some dd =>
    rw [hg] at q
    exact ⟨γ, α, F, μ, x, dd, w, hx, hsl, hg, fun α' F' H' v p e w' i' => q α' F' H' _ p e w' ((s.mono p e).set n i')⟩
theorem pxs_ret (h : PXE X i e g) : PXS X i [.Return (some e) pos] (sRet g) := fun a oe cls d pn hz hf => by
  refine pss_one (ps_weak (ps_ret (h a oe cls d pn hz hf)) fun D σ H ⟨γ, α, F, μ, δ, x, w, s, hx, hsl, q⟩ => ?_)
  unfold sRet at q
  cases hg : g x with
  | none => rw [hg] at q; exact q.elim
  | some dd =>
    rw [hg] at q
    exact ⟨γ, α, F, μ, x, dd, w, hx, hsl, hg, fun α' F' H' v p e w' i' => q α' F' H' v p e w' i'⟩
end
/-! ### which clauses take which classes -/
/-- the classes D that a clause of the class c is asked of, with the answers -/
def mOf (t : List (Addr × Bool)) : Value → Option Bool := fun v => match v with
  | .ref a => t.lookup a
  | _ => none
theorem mof_ok {K : PySem.W.Frag} {c : Value} {t : List (Addr × Bool)} (h : ∀ p ∈ t, PySem.W.exmOne K (.ref p.1) c = some p.2) : ∀ cls b, mOf t cls = some b → PySem.W.exmOne K cls c = some b := fun cls b e => by
  unfold mOf at e
  cases cls with
  | ref a =>
    have : ∀ {l : List (Addr × Bool)}, l.lookup a = some b → (a, b) ∈ l := by
      intro l
      induction l with
      | nil => intro z; cases z
      | cons q l ih =>
        intro z
        rw [List.lookup_cons] at z
        split at z
        · rename_i hq
          have hq := eq_of_beq hq
          cases z
          subst hq
          exact List.mem_cons_self
        · exact List.mem_cons_of_mem _ (ih z)
    exact h _ (this e)
  | _ => cases e
theorem kit_sub {K : PySem.W.Frag} {D C : Addr} (h1 : D ≠ C) (h : PySem.W.kitCls K (.ref D) (.ref C) = some true) : PySem.W.kitOne K (.ref D) (.ref C) = some true := by
  unfold PySem.W.kitOne
  rw [if_neg (by simpa using h1)]
  exact h
end DL

/-! The data layer, v: contracts that leave nothing behind; lists that stand still from now on. -/
namespace DL
open PySem L2 PyProof.Rows
open Classical in
/-- what was made on the way may be forgotten -/
def Trim (μ : List Ob) (ds : List D) (μe : List Ob) : Prop := μ.length ≤ μe.length ∧ scL μ.length ds = true ∧ ∀ (k : Nat) o, k < μ.length → μe[k]? = some o → μ[k]? = some o ∨ o.sc μ.length = true
open Classical in
/-- the contract that is the body, without what it made on the way -/
noncomputable def ctT (m : Nat) (fb : RS) : Ct := fun ds μ => match fb (ds.map some ++ List.replicate m none) μ with
  | .rt d μe => if Trim μ [d] μe then .ok d (μe.take μ.length) else .bad
  | .nx _ μe => if Trim μ [] μe then .ok .non (μe.take μ.length) else .bad
  | .exc x _ μe => if Trim μ x.xs μe then .exc x (μe.take μ.length) else .bad
  | _ => .bad
theorem Trim.keep {μ μe : List Ob} {ds : List D} (h : Trim μ ds μe) : Keep μ (μe.take μ.length) ds μe := by
  obtain ⟨h1, h2, h3⟩ := h
  have hl : (μe.take μ.length).length = μ.length := by rw [List.length_take]; omega
  refine .inr ⟨⟨μe.drop μ.length, (List.take_append_drop _ _).symm⟩, by rw [hl]; exact Nat.le_refl _, by rw [hl]; exact h2, fun k o e => ?_⟩
  have hk : k < μ.length := by
    have := (List.getElem?_eq_some_iff.mp e).1
    rw [hl] at this
    exact this
  rw [List.getElem?_take_of_lt hk] at e
  rw [hl]
  exact h3 k o hk e
theorem covs_t {N ps : List Str} {fb : RS} : Covs N ps (ctT (N.length - ps.length) fb) fb := fun ds μ hl => by
  unfold ctT
  cases h : fb (ds.map some ++ List.replicate (N.length - ps.length) none) μ with
  | rt d μ1 =>
    dsimp only
    split
    · rename_i t
      exact ⟨rfl, t.keep⟩
    · trivial
  | nx δ μ1 =>
    dsimp only
    split
    · rename_i t
      exact ⟨rfl, t.keep⟩
    · trivial
  | exc x δ μ1 =>
    dsimp only
    split
    · rename_i t
      exact ⟨rfl, t.keep⟩
    · trivial
  | _ => trivial
section
variable {m : Nat} {fb : RS} {ds : List D} {μ μ' j : List Ob} {d : D} {x : Exn} {δ : Sl}
/-- what stands at the old places is old or without new places -/
def Old (μ μ' : List Ob) : Prop := μ'.length = μ.length ∧ ∀ (k : Nat) o, k < μ.length → μ'[k]? = some o → μ[k]? = some o ∨ o.sc μ.length = true
theorem Old.refl : Old μ μ := ⟨rfl, fun _ _ _ h => .inl h⟩
theorem Old.trim {es : List D} (o : Old μ μ') (h : scL μ.length es = true) : Trim μ es (μ' ++ j) := by
  refine ⟨by rw [List.length_append, o.1]; omega, h, fun k ob hk e => ?_⟩
  rw [List.getElem?_append_left (by rw [o.1]; exact hk)] at e
  exact o.2 k ob hk e
theorem ctT_rt (h : fb (ds.map some ++ List.replicate m none) μ = .rt d (μ' ++ j)) (o : Old μ μ') (hd : d.sc μ.length = true) : ctT m fb ds μ = .ok d μ' := by
  unfold ctT
  rw [h]
  dsimp only
  rw [if_pos (o.trim (by rw [scL, hd]; rfl)), List.take_left' o.1]
theorem ctT_nx (h : fb (ds.map some ++ List.replicate m none) μ = .nx δ (μ' ++ j)) (o : Old μ μ') : ctT m fb ds μ = .ok .non μ' := by
  unfold ctT
  rw [h]
  dsimp only
  rw [if_pos (o.trim (by rw [scL])), List.take_left' o.1]
theorem ctT_ex (h : fb (ds.map some ++ List.replicate m none) μ = .exc x δ (μ' ++ j)) (o : Old μ μ') (hd : scL μ.length x.xs = true) : ctT m fb ds μ = .exc x μ' := by
  unfold ctT
  rw [h]
  dsimp only
  rw [if_pos (o.trim hd), List.take_left' o.1]
/-- .. of a def that changes nothing -/
theorem pu_rt (h : ∃ j, fb (ds.map some ++ List.replicate m none) μ = .rt d (μ ++ j)) (hd : d.sc 0 = true) : ctT m fb ds μ = .ok d μ :=
  let ⟨j, h⟩ := h; ctT_rt h .refl (sc_le (Nat.zero_le _) d hd)
theorem pu_nx (h : ∃ δ j, fb (ds.map some ++ List.replicate m none) μ = .nx δ (μ ++ j)) : ctT m fb ds μ = .ok .non μ :=
  let ⟨δ, j, h⟩ := h; ctT_nx h .refl
theorem pu_ex (h : ∃ δ j, fb (ds.map some ++ List.replicate m none) μ = .exc x δ (μ ++ j)) (hd : scL 0 x.xs = true) : ctT m fb ds μ = .exc x μ :=
  let ⟨δ, j, h⟩ := h; ctT_ex h .refl (scL_le (Nat.zero_le _) _ hd)
end
section
variable {P : Program} {w : World} {K : PySem.W.Frag} {mg : Str → Option Value} {base : Heap} {x : Str} {st : Stmt} {ps : List Str} {k : Nat}
/-- a def of which nothing is promised -/
theorem Df.cal0 (d : Df K mg x st ps) : Cal P w K mg base k x ps.length (fun _ _ => .bad) := by
  obtain ⟨f, fd, F, hb, hm, kp⟩ := d.ex
  exact ⟨f, fd, ps, rfl, ⟨fun vs H Q E h => h.1, fun A outer s H args us vs Q E _ _ _ _ h => by
    obtain ⟨_, _, _, _, _, _, _, _, q⟩ := h
    exact q.elim⟩, hm, kp, hb⟩
end

/-! ### standing still -/
section
variable {X : Cx} {W : WX} {e a : Expr} {st : Stmt} {f fa : RE} {g : RS}
/-- a list stands still from now on -/
def rFzl (f : RE) : RE := fun δ μ => (f δ μ).bind fun d μ1 => match d with
  | .loc k => match μ1[k]? with
    | some (.lst xs) => .ok (.lst xs) (μ1.set k .dead)
    | _ => .bad
  | _ => .bad
theorem wd_fzl {K : PySem.W.Frag} {γ : Hp} {α : List Addr} {F H : Hp} {μ : List Ob} {k : Nat} {xs : List D} {v : V} (w : Wd K γ α F H μ) (hv : Is K α F v (.loc k)) (hm : μ[k]? = some (.lst xs)) :
    ∃ F', Same F F' ∧ Wd K γ α F' H (μ.set k .dead) ∧ ∀ u, Is K α F u (.loc k) → Is K α F' u (.lst xs) := by
  cases hv with
  | loc ha =>
    rename_i a
    obtain ⟨vs, h1, h2⟩ := w.obj k a _ ha hm
    have hn : F a = none := w.apart k a _ ha hm (by intro z; cases z)
    refine ⟨upd F a (.lst vs), same_new hn, ?_, fun u hu => ?_⟩
    · have := w.frz (o := .lst vs) ha hm (by intro z; cases z)
      rw [upd_id h1] at this
      exact this
    · cases hu with
      | loc hb =>
        rw [ha] at hb
        cases hb
        exact .lst upd_same (h2.mono (List.prefix_refl _) (same_new hn))
theorem pd_fzl (h : PD X W e f) : PD X W e (rFzl f) := pe_weak h fun σ H Q ⟨γ, α, F, μ, δ, w, s, q⟩ => tD_go w s q fun d μ1 α1 F1 H1 v p1 e1 w1 s1 hv q1 => by
  cases d with
  | loc k =>
    simp only at q1
    cases hm : μ1[k]? with
    | none => rw [hm] at q1; exact q1.elim
    | some ob =>
      rw [hm] at q1
      cases ob with
      | lst xs =>
        obtain ⟨F', sF, w', hi⟩ := wd_fzl w1 hv hm
        exact q1 α1 F' H1 (List.prefix_refl _) sF w' v (hi v hv)
      | _ => exact q1.elim
  | _ => exact q1.elim
/-- behind a statement the list in slot i stands still -/
def rFzS (i : Nat) (g : RS) : RS := fun δ μ => match g δ μ with
  | .nx δ1 μ1 => (match δ1[i]? with
    | some (some (.loc k)) => (match μ1[k]? with
      | some (.lst xs) => .nx (δ1.set i (some (.lst xs))) (μ1.set k .dead)
      | _ => .bad)
    | _ => .bad)
  | r => r
theorem psd_fzl (i : Nat) (h : PSD X W st g) : PSD X W st (rFzS i g) := ps_weak h fun D σ H ⟨γ, α, F, μ, δ, w, s, q⟩ => by
  refine ⟨γ, α, F, μ, δ, w, s, ?_⟩
  unfold rFzS at q
  cases hg : g δ μ with
  | nx δ1 μ1 =>
    rw [hg] at q
    dsimp only at q
    cases hi : δ1[i]? with
    | none => rw [hi] at q; exact q.elim
    | some o =>
      cases o with
      | none => rw [hi] at q; exact q.elim
      | some d =>
        rw [hi] at q
        cases d with
        | loc k =>
          dsimp only at q
          cases hm : μ1[k]? with
          | none => rw [hm] at q; exact q.elim
          | some ob =>
            rw [hm] at q
            cases ob with
            | lst xs =>
              intro α' F' H' σ' p e w' s'
              obtain ⟨v, hv1, hv2⟩ := s'.at_ i _ hi
              obtain ⟨F2, sF, w2, hk⟩ := wd_fzl w' hv2 hm
              refine q α' F2 H' σ' p (e.trans sF) w2 ⟨by rw [List.length_set]; exact s'.len, fun j d2 q2 => ?_⟩
              by_cases hj : j = i
              · subst hj
                have hl : j < δ1.length := (List.getElem?_eq_some_iff.mp hi).1
                rw [List.getElem?_set_self hl] at q2
                cases q2
                exact ⟨v, hv1, hk v hv2⟩
              · rw [List.getElem?_set_ne (Ne.symm hj)] at q2
                obtain ⟨u, k1, k2⟩ := s'.at_ j d2 q2
                exact ⟨u, k1, k2.mono (List.prefix_refl _) sF⟩
            | _ => exact q.elim
        | _ => exact q.elim
  | rt d μ1 => rw [hg] at q; exact q
  | exc x δ1 μ1 => rw [hg] at q; exact q
  | bk δ1 μ1 => rw [hg] at q; exact q
  | ct δ1 μ1 => rw [hg] at q; exact q
  | bad => rw [hg] at q; exact q
/-- isinstance(a, (T1, T2)) -/
def isT2 (T1 T2 : String) (d : D) : Option Bool := match isT T1 d with
  | some true => some true
  | some false => isT T2 d
  | none => none
def rIsTs (q : D → Option Bool) (f : RE) : RE := fun δ μ => (f δ μ).bind fun d μ1 => match q (d.view μ1) with
  | some b => .ok (.bl b) μ1
  | none => .bad
theorem isT_kit {K : PySem.W.Frag} {α : List Addr} {F H : Hp} {v : V} {d : D} {T : String} {b : Bool} (h : Vw K α F H v d) (e : isT T d = some b) : ∃ S, TyX K H v (.type S) ∧ PySem.W.kitOne K (.type S) (.type T) = some b ∧ d.tyS = some S := by
  unfold isT at e
  cases hS : d.tyS with
  | none => rw [hS] at e; cases e
  | some S =>
    rw [hS] at e
    exact ⟨S, tyx_of h hS, kit_ty e, rfl⟩
theorem pd_isTs (T1 T2 : String) {n : Nat} {p p1 p2 p3 pos : Pos} (hm : X.mg "isinstance" = none) (m1 : X.mg T1 = none) (m2 : X.mg T2 = none) (b1 : bootBuiltins T1 = some (.type T1)) (b2 : bootBuiltins T2 = some (.type T2)) (ha : PD X W a fa)
    (g1 : Gl X T1 := by rfl) (g2 : Gl X T2 := by rfl) (n1 : (T1 : Str) ≠ "__name__" := by decide) (n2 : (T2 : Str) ≠ "__name__" := by decide) (d1 : ((T1 : Str) == ("__debug__" : Str)) = false := by decide) (d2 : ((T2 : Str) == ("__debug__" : Str)) = false := by decide) (hg : Gl X "isinstance" := by rfl)
    (hs1 : starEach [.Name T1 p1, .Name T2 p2] X.env = (false, eval (.Name T1 p1) X.env) :: starEach [.Name T2 p2] X.env := by rfl) (hs2 : starEach [.Name T2 p2] X.env = (false, eval (.Name T2 p2) X.env) :: starEach [] X.env := by rfl)
    (hs3 : starEach [.Tuple [.Name T1 p1, .Name T2 p2] n p3] X.env = (false, eval (.Tuple [.Name T1 p1, .Name T2 p2] n p3) X.env) :: starEach [] X.env := by rfl)
    (he : starEach [a, .Tuple [.Name T1 p1, .Name T2 p2] n p3] X.env = (false, eval a X.env) :: starEach [.Tuple [.Name T1 p1, .Name T2 p2] n p3] X.env := by rfl) (hpl : (backTo pos (starEach [.Tuple [.Name T1 p1, .Name T2 p2] n p3] X.env)).any (·.1) = false := by rfl) :
    PD X W (.Call (.Name "isinstance" p) [a, .Tuple [.Name T1 p1, .Name T2 p2] n p3] [] pos) (rIsTs (isT2 T1 T2) fa) := by
  refine pe_weak (pe_callB call_isiT hg hm PyProof.Rows.boot_isinstance (pa_cons ha (pa_cons (pe_tup (pa_cons (pe_bltn g1 m1 b1 (v := .ty T1) rfl n1 d1) (pa_cons (pe_bltn g2 m2 b2 (v := .ty T2) rfl n2 d2) pa_nil hs2) hs1)) pa_nil hs3) he) (by decide) (by decide) he hpl) fun σ H Q ⟨γ, α, F, μ, δ, w, s, q⟩ => ?_
  refine tD_go w s q fun d μ1 α1 F1 H1 v p1 e1 w1 s1 hv q1 => ?_
  refine ⟨by rw [sizeLine_eq]; simp, fun tp np => ?_⟩
  cases hq : isT2 T1 T2 (d.view μ1) with
  | none => rw [hq] at q1; exact q1.elim
  | some b =>
    rw [hq] at q1
    have vw := (w1.lay0 (o := .tup [.ty T1, .ty T2]) np).view hv
    have fin : Q (.bl b) (upd H1 tp (.tup [.ty T1, .ty T2])) := q1 α1 F1 _ (List.prefix_refl _) (Same.refl F1) (w1.lay0 np) _ (.bl b)
    unfold isT2 at hq
    cases h1 : isT T1 (d.view μ1) with
    | none => rw [h1] at hq; cases hq
    | some b1 =>
      rw [h1] at hq
      obtain ⟨S, t1, k1, hS⟩ := isT_kit vw h1
      refine ⟨v, tp, [.ty T1, .ty T2], .type S, [.type T1, .type T2], b, rfl, upd_same, .cons (.ty T1) (.cons (.ty T2) .nil), t1, ?_, fin⟩
      cases b1 with
      | true =>
        cases hq
        exact kitAny_cons k1 (fun z => nomatch z) fun _ => rfl
      | false =>
        obtain ⟨S2, t2, k2, hS2⟩ := isT_kit vw hq
        rw [hS] at hS2
        cases hS2
        refine kitAny_cons k1 (fun _ => kitAny_cons (b := b) k2 (fun hb => by subst hb; exact kitAny_nil) fun hb => hb) fun z => nomatch z
end
end DL

/-! The data layer, w: short words for printed texts with exceptions. -/
namespace DL
open PySem L2 PyProof.Rows NdefX
section
variable {X : Cx} {W : WX} {K : PySem.W.Frag} {C D : Addr} {c : Value} {l : List (Addr × Bool)} {b : Bool} {pos p : Pos}
theorem m0 : ∀ q ∈ ([] : List (Addr × Bool)), PySem.W.exmOne K (.ref q.1) c = some q.2 := fun _ h => nomatch h
theorem m1 (h : PySem.W.exmOne K (.ref D) c = some b) (r : ∀ q ∈ l, PySem.W.exmOne K (.ref q.1) c = some q.2) : ∀ q ∈ (D, b) :: l, PySem.W.exmOne K (.ref q.1) c = some q.2 := fun q hq => by
  rcases List.mem_cons.mp hq with rfl | hq
  · exact h
  · exact r q hq
def okOf (C : Addr) : Value → Bool := fun v => match v with
  | .ref a => decide (a = C)
  | _ => false
theorem hN_of (h : ExcC K D) (k : PySem.W.kitOne K (.ref D) c = some true) : ∀ cls, okOf D cls = true → ∃ D', cls = .ref D' ∧ ExcC K D' ∧ PySem.W.kitOne K (.ref D') c = some true := fun cls hc => by
  unfold okOf at hc
  cases cls with
  | ref a =>
    have e := of_decide_eq_true hc
    subst e
    exact ⟨a, rfl, h, k⟩
  | _ => cases hc
theorem kit_any (h1 : (PySem.W.clsIn K C).isSome = true) (h2 : PySem.W.typeIn K (.ref C) = some (.type "type")) (h3 : PySem.W.subIn K (.ref D) (.ref C) = some true) : PySem.W.kitOne K (.ref D) (.ref C) = some true := by
  unfold PySem.W.kitOne
  split
  · rfl
  · unfold PySem.W.kitCls
    show (if ((PySem.W.clsIn K C).isSome && PySem.W.typeIn K (.ref C) == some (.type "type")) = true then PySem.W.subIn K (.ref D) (.ref C) else none) = some true
    have e : ((PySem.W.clsIn K C).isSome && PySem.W.typeIn K (.ref C) == some (.type "type")) = true := by rw [h1, h2]; rfl
    rw [if_pos e]
    exact h3
theorem pd_neg {i : Int} {j : Nat} : PD X W (.UnaryOp .USub (.Constant (.int i) j p) pos) (rC (.int (-i))) :=
  pe_weak (pe_un un_neg pe_int) fun σ H Q ⟨γ, α, F, μ, δ, w, s, q⟩ => ⟨i, rfl, q α F H (List.prefix_refl _) (Same.refl F) w _ (.int _)⟩
end
end DL

/-! The data layer, y: loops and comprehensions over typed things. -/
namespace DL
open PySem L2
section
variable {ι σ : Type} {t : Tg} {vs : List Nat} {ft : RT} {fe : RE} {δ : Sl} {μ : List Ob} {body : RS}
/-- a comprehension that changes nothing -/
theorem comp_t (enc : ι → D) (p : ι → Bool) (f : ι → D) : ∀ (xs : List ι) (acc : List D), acc.length + xs.length ≤ 16777216 →
    (∀ x ∈ xs, ∃ δ1, t.set (enc x) (wipeD δ vs) = some δ1 ∧ ft δ1 μ = .ok (p x) μ ∧ (p x = true → fe δ1 μ = .ok (f x) μ)) → compL t vs ft fe (xs.map enc) δ μ acc = .ok (acc ++ (xs.filter p).map f) μ
  | [], acc, _, _ => by simp [compL]
  | x :: xs, acc, hl, h => by
    rw [List.length_cons] at hl
    obtain ⟨δ1, h1, h2, h3⟩ := h x List.mem_cons_self
    have ih := fun acc' hl' => comp_t enc p f xs acc' hl' fun y hy => h y (List.mem_cons_of_mem _ hy)
    rw [List.map_cons, compL, h1]
    simp only [h2]
    cases hp : p x with
    | false =>
      simp only
      rw [ih acc (by omega), List.filter_cons, hp]
      rfl
    | true =>
      simp only [h3 hp]
      rw [if_pos (by omega), ih (acc ++ [f x]) (by simp; omega), List.filter_cons, hp]
      simp
/-- one that draws: M tells the store by what was drawn so far -/
theorem comp_s (M : σ → List Ob) (enc : ι → D) (f : σ → ι → D) (g : σ → ι → σ) (hy : ∀ δ μ, ft δ μ = .ok true μ) : ∀ (xs : List ι) (s : σ) (acc : List D), acc.length + xs.length ≤ 16777216 →
    (∀ s x, ∃ δ1, t.set (enc x) (wipeD δ vs) = some δ1 ∧ fe δ1 (M s) = .ok (f s x) (M (g s x))) →
    compL t vs ft fe (xs.map enc) δ (M s) acc = .ok (acc ++ (xs.foldl (fun (p : List D × σ) x => (p.1 ++ [f p.2 x], g p.2 x)) ([], s)).1) (M (xs.foldl (fun (p : List D × σ) x => (p.1 ++ [f p.2 x], g p.2 x)) ([], s)).2)
  | [], s, acc, _, _ => by simp [compL]
  | x :: xs, s, acc, hl, h => by
    rw [List.length_cons] at hl
    obtain ⟨δ1, h1, h3⟩ := h s x
    rw [List.map_cons, compL, h1]
    simp only [hy, h3]
    rw [if_pos (by omega), comp_s M enc f g hy xs (g s x) (acc ++ [f s x]) (by simp; omega) h]
    have key : ∀ (ys : List ι) (l : List D) (s : σ), (ys.foldl (fun (p : List D × σ) x => (p.1 ++ [f p.2 x], g p.2 x)) (l, s)) = (l ++ (ys.foldl (fun (p : List D × σ) x => (p.1 ++ [f p.2 x], g p.2 x)) ([], s)).1, (ys.foldl (fun (p : List D × σ) x => (p.1 ++ [f p.2 x], g p.2 x)) ([], s)).2) := by
      intro ys
      induction ys with
      | nil => intro l s; simp
      | cons y ys ih =>
        intro l s
        rw [List.foldl_cons, List.foldl_cons, ih (l ++ [f s y]), ih ([] ++ [f s y])]
        simp
    rw [List.foldl_cons, key xs ([] ++ [f s x])]
    simp
/-- a loop whose slots and store are told by a state -/
theorem for_t (S : σ → Sl) (M : σ → List Ob) (enc : ι → D) (step : σ → ι → σ) (P : σ → Prop) : ∀ (xs : List ι) (s : σ), P s →
    (∀ s x, x ∈ xs → P s → P (step s x) ∧ ∃ δ1, t.set (enc x) (S s) = some δ1 ∧ body δ1 (M s) = .nx (S (step s x)) (M (step s x))) → P (xs.foldl step s) ∧ forL t body (xs.map enc) (S s) (M s) = .nx (S (xs.foldl step s)) (M (xs.foldl step s))
  | [], s, hs, _ => ⟨hs, rfl⟩
  | x :: xs, s, hs, h => by
    obtain ⟨h0, δ1, h1, h2⟩ := h s x List.mem_cons_self hs
    obtain ⟨i1, i2⟩ := for_t S M enc step P xs (step s x) h0 fun s y hy hp => h s y (List.mem_cons_of_mem _ hy) hp
    refine ⟨i1, ?_⟩
    rw [List.map_cons, forL]
    simp only [h1, h2]
    exact i2
/-- a loop with an invariant -/
theorem for_i (I : List D → Sl → List Ob → Prop) (h : ∀ d ds δ μ, I (d :: ds) δ μ → ∃ δ1, t.set d δ = some δ1 ∧ ∃ δ2 μ2, body δ1 μ = .nx δ2 μ2 ∧ I ds δ2 μ2) : ∀ ds δ μ, I ds δ μ → ∃ δ' μ', forL t body ds δ μ = .nx δ' μ' ∧ I [] δ' μ'
  | [], δ, μ, hi => ⟨δ, μ, rfl, hi⟩
  | d :: ds, δ, μ, hi => by
    obtain ⟨δ1, h1, δ2, μ2, h2, h3⟩ := h d ds δ μ hi
    obtain ⟨δ', μ', e, q⟩ := for_i I h ds δ2 μ2 h3
    refine ⟨δ', μ', ?_, q⟩
    rw [forL]
    simp only [h1, h2]
    exact e
end
theorem upTo_eq {lo : Int} {n : Nat} : upTo lo n = (List.range n).map fun k => D.int (lo + (k : Nat)) := rfl
theorem upTo_z {n : Nat} : upTo 0 n = (List.range n).map fun k => D.int (k : Nat) := by rw [upTo_eq]; simp
theorem range1_j {fs : RA} {δ : Sl} {μ μ1 : List Ob} {j : Int} (e : fs δ μ = .ok [.int j] μ1) (h0 : 0 ≤ j) (h : j < 1000000) : rRange1 fs δ μ = .ok (upTo 0 j.toNat) μ1 := by
  have v62 : j < 4611686018427387904 := by omega
  have v63 : -4611686018427387904 ≤ j := by omega
  simp [e, v62, v63]
theorem range1_ok {fs : RA} {δ : Sl} {μ μ1 : List Ob} {n : Nat} (e : fs δ μ = .ok [.int (n : Nat)] μ1) (h : n < 1000000) : rRange1 fs δ μ = .ok ((List.range n).map fun k => D.int (k : Nat)) μ1 := by
  have := range1_j e (by omega) (by omega)
  rw [Int.toNat_natCast, upTo_z] at this
  exact this
theorem cut_to {β : Type} {xs : List β} {n : Nat} : cutL xs none (some (n : Int)) = xs.take n := by
  unfold cutL
  rw [HT.sIx_nat]
  show (xs.drop 0).take (min n xs.length - 0) = _
  rw [List.drop_zero, Nat.sub_zero]
  by_cases h : n ≤ xs.length
  · rw [Nat.min_eq_left h]
  · rw [Nat.min_eq_right (by omega), List.take_of_length_le (Nat.le_refl _), List.take_of_length_le (by omega)]
theorem cut_from {β : Type} {xs : List β} {n : Nat} : cutL xs (some (n : Int)) none = xs.drop n := by
  unfold cutL
  rw [HT.sIx_nat]
  show (xs.drop (min n xs.length)).take (xs.length - min n xs.length) = _
  by_cases h : n ≤ xs.length
  · rw [Nat.min_eq_left h, List.take_of_length_le (by rw [List.length_drop]; omega)]
  · rw [Nat.min_eq_right (by omega), List.drop_of_length_le (Nat.le_refl _), List.drop_of_length_le (by omega)]
    simp
end DL

/-! The data layer, N1: sorted things. -/
namespace DL
open PySem L2

/-! ### the order and the sort -/
def leO (d e : D) : Bool := PySem.W.dataLe false D.py d e
def insD (d : D) : List D → List D
  | [] => [d]
  | e :: l => if leO d e then d :: e :: l else e :: insD d l
def srt : List D → List D
  | [] => []
  | d :: l => insD d (srt l)
theorem leO_tot : PySem.W.TotalLe leO := PySem.W.sortLe_total _ false _
theorem insD_mem {d x : D} : ∀ {l : List D}, x ∈ insD d l ↔ x = d ∨ x ∈ l
  | [] => by simp [insD]
  | e :: l => by
    unfold insD
    split
    · simp
    · rw [List.mem_cons, insD_mem (l := l), List.mem_cons]
      constructor
      · rintro (h | h | h)
        · exact .inr (.inl h)
        · exact .inl h
        · exact .inr (.inr h)
      · rintro (h | h | h)
        · exact .inr (.inl h)
        · exact .inl h
        · exact .inr (.inr h)
abbrev Up (l : List D) : Prop := l.Pairwise fun a b => leO a b = true
theorem insD_up {d : D} : ∀ {l : List D}, Up l → Up (insD d l)
  | [], _ => List.pairwise_singleton _ _
  | e :: l, h => by
    obtain ⟨h1, h2⟩ := List.pairwise_cons.mp h
    unfold insD
    by_cases c : leO d e = true
    · rw [if_pos c]
      refine List.pairwise_cons.mpr ⟨fun x hx => ?_, h⟩
      rcases List.mem_cons.mp hx with rfl | hx
      · exact c
      · exact leO_tot.trans _ _ _ c (h1 x hx)
    · rw [if_neg c]
      refine List.pairwise_cons.mpr ⟨fun x hx => ?_, insD_up h2⟩
      rcases insD_mem.mp hx with rfl | hx
      · exact (leO_tot.total e x).resolve_right c
      · exact h1 x hx
theorem srt_up : ∀ l : List D, Up (srt l)
  | [] => List.Pairwise.nil
  | d :: l => insD_up (srt_up l)
theorem insD_rank {d c : D} : ∀ {l : List D}, (insD d l).filter (PySem.W.sameRank leO c) = (d :: l).filter (PySem.W.sameRank leO c)
  | [] => rfl
  | e :: l => by
    unfold insD
    by_cases q : leO d e = true
    · rw [if_pos q]
    · rw [if_neg q, List.filter_cons, insD_rank (l := l), List.filter_cons (x := d), List.filter_cons (x := d), List.filter_cons (x := e)]
      by_cases hd : PySem.W.sameRank leO c d = true <;> by_cases he : PySem.W.sameRank leO c e = true
      · exfalso
        unfold PySem.W.sameRank at hd he
        rw [Bool.and_eq_true] at hd he
        exact q (leO_tot.trans _ _ _ hd.2 he.1)
      · simp [hd, he]
      · simp [hd, he]
      · simp [hd, he]
theorem srt_rank {c : D} : ∀ {l : List D}, (srt l).filter (PySem.W.sameRank leO c) = l.filter (PySem.W.sameRank leO c)
  | [] => rfl
  | d :: l => by
    show (insD d (srt l)).filter _ = _
    rw [insD_rank, List.filter_cons, List.filter_cons, srt_rank (l := l)]
theorem srt_eq (l : List D) : l.mergeSort leO = srt l := (PySem.W.sort_unique leO_tot (srt_up l) fun c => srt_rank).symm
theorem insD_perm {d : D} : ∀ {l : List D}, (insD d l).Perm (d :: l)
  | [] => List.Perm.refl _
  | e :: l => by
    unfold insD
    split
    · exact List.Perm.refl _
    · exact ((insD_perm (l := l)).cons e).trans (List.Perm.swap d e l)
theorem srt_perm : ∀ {l : List D}, (srt l).Perm l
  | [] => List.Perm.refl _
  | d :: l => insD_perm.trans ((srt_perm (l := l)).cons d)
/-- the order tells any two of them apart -/
def Apt (l : List D) : Prop := ∀ x ∈ l, ∀ y ∈ l, leO x y = true → leO y x = true → x = y
theorem up_one : ∀ {l m : List D}, l.Perm m → Up l → Up m → Apt l → l = m
  | [], m, p, _, _, _ => (p.symm.eq_nil).symm
  | x :: l, [], p, _, _, _ => absurd p.length_eq (by simp)
  | x :: l, y :: m, p, h, k, a => by
    have hx : x ∈ y :: m := p.mem_iff.mp List.mem_cons_self
    have hy : y ∈ x :: l := p.mem_iff.mpr List.mem_cons_self
    obtain ⟨h1, h2⟩ := List.pairwise_cons.mp h
    obtain ⟨k1, k2⟩ := List.pairwise_cons.mp k
    have e : x = y := by
      rcases List.mem_cons.mp hx with e | hx
      · exact e
      rcases List.mem_cons.mp hy with e | hy
      · exact e.symm
      exact a x List.mem_cons_self y (List.mem_cons_of_mem _ hy) (h1 y hy) (k1 x hx)
    subst e
    rw [up_one p.cons_inv h2 k2 fun u hu v hv => a u (List.mem_cons_of_mem _ hu) v (List.mem_cons_of_mem _ hv)]
theorem Apt.perm {l m : List D} (a : Apt l) (p : l.Perm m) : Apt m := fun x hx y hy => a x (p.mem_iff.mpr hx) y (p.mem_iff.mpr hy)
theorem srt_one {l m : List D} (p : l.Perm m) (h : Up l) (a : Apt m) : l = srt m := up_one (p.trans srt_perm.symm) h (srt_up m) (a.perm p.symm)
theorem srt_same {l m : List D} (p : l.Perm m) (a : Apt m) : srt l = srt m := srt_one (srt_perm.trans p) (srt_up l) a

/-! ### what can be sorted -/
def isTp : D → Bool
  | .tup (_ :: _) => true
  | _ => false
def isAtm : D → Bool
  | .bl _ => true
  | .int _ => true
  | .str _ => true
  | _ => false
def srtOk (ds : List D) : Bool := okdL 60 ds && (ds.all fun d => ds.all fun e => PySem.W.alike d.py e.py) && (ds.all isTp || ds.all isAtm)
section
variable {X : Cx} {K : PySem.W.Frag} {γ : Hp} {α : List Addr} {F H : Hp} {μ : List Ob}
theorem okdL_mem {n : Nat} {d : D} : ∀ {ds : List D}, okdL n ds = true → d ∈ ds → d.okd n = true
  | x :: xs, h, m => by
    rw [okdL, Bool.and_eq_true] at h
    rcases List.mem_cons.mp m with rfl | m
    · exact h.1
    · exact okdL_mem h.2 m
theorem srtOk_alike {ds : List D} (h : srtOk ds = true) : PySem.W.AllAlike (ds.map D.py) := by
  unfold srtOk at h
  rw [Bool.and_eq_true, Bool.and_eq_true, List.all_eq_true] at h
  intro x hx y hy
  obtain ⟨d, hd, rfl⟩ := List.mem_map.mp hx
  obtain ⟨e, he, rfl⟩ := List.mem_map.mp hy
  exact List.all_eq_true.mp (h.1.2 d hd) e he
theorem srtOk_sort {ds : List D} (h : srtOk ds = true) : PySem.W.Sortable (ds.map D.py) := by
  unfold srtOk at h
  rw [Bool.and_eq_true, Bool.or_eq_true] at h
  rcases h.2 with q | q
  · refine .inl fun x hx => ?_
    obtain ⟨d, hd, rfl⟩ := List.mem_map.mp hx
    have t := List.all_eq_true.mp q d hd
    cases d with
    | tup xs =>
      cases xs with
      | nil => cases t
      | cons x xs => exact ⟨x.py, pyL xs, by rw [D.py, pyL]⟩
    | _ => cases t
  · refine .inr fun x hx => ?_
    obtain ⟨d, hd, rfl⟩ := List.mem_map.mp hx
    have t := List.all_eq_true.mp q d hd
    cases d <;> first | (cases t; done) | (rw [D.py]; exact ⟨by simp, by simp⟩)
theorem each_in {W' : WX} {pins : List (Addr × Obj)} {σ : St} {s : Shared} (w : Wd X.K γ α F H μ) (I : Inv X pins σ H s) : ∀ {ys : List V} {us : List Value} {ds : List D}, Vals ys us → IsL X.K α F ys ds → okdL 60 ds = true →
    PySem.W.EachIs (fun u d => ∃ v, RelV v u ∧ Is X.K α F v d) us ds ∧ PySem.W.EachIs (fun u d => ∃ as, PySem.Reads s.heap u (D.py d) as) us ds
  | _, _, _, .nil, .nil, _ => ⟨.nil, .nil⟩
  | _, _, _, .cons r t, .cons h l, e => by
    rw [okdL, Bool.and_eq_true] at e
    obtain ⟨a, b⟩ := each_in (W' := W') w I t l e.2
    exact ⟨.cons ⟨_, r, h⟩ a, .cons (Dp.reads I _ _ _ (dp_mono w.sub (h.dp 60 e.1)) r) b⟩
theorem each_out : ∀ {us : List Value} {ds : List D}, PySem.W.EachIs (fun u d => ∃ v, RelV v u ∧ Is K α F v d) us ds → ∃ zs, Vals zs us ∧ IsL K α F zs ds
  | _, _, .nil => ⟨[], .nil, .nil⟩
  | _, _, .cons ⟨v, r, h⟩ t => by
    obtain ⟨zs, a, b⟩ := each_out t
    exact ⟨v :: zs, .cons r a, .cons h b⟩
def rSortA (K : PySem.W.Frag) : List V → Hp → VK → Prop := fun xs H Q => ∃ γ α F μ p ys ds, Wd K γ α F H μ ∧ xs = [.ref p] ∧ SqL K H p ys ∧ IsL K α F ys ds ∧ srtOk ds = true ∧
  ∀ zs l, IsL K α F zs (srt ds) → H l = none → Q (.ref l) (upd H l (.lst zs))
theorem cr_sortA (hu : X.A.units + 64 < cLine) : CallR X (.builtin "sorted") (rSortA X.K) := by
  intro pins s σ H vs us Q I r h
  obtain ⟨γ, α, F, μ, p, ys, ds, w, rfl, hs, hl, ok, q⟩ := h
  obtain ⟨its, rv, pl, hz⟩ := I.list hs
  rw [Vals.ref1 r]
  have ok1 : okdL 60 ds = true := by
    unfold srtOk at ok
    rw [Bool.and_eq_true, Bool.and_eq_true] at ok
    exact ok.1.1
  obtain ⟨e1, e2⟩ := each_in (W' := fun _ _ _ _ => True) w I rv hl ok1
  have len : ys.length = ds.length := hl.length
  refine PySem.W.sorted_data (R := fun u d => ∃ v, RelV v u ∧ Is X.K α F v d) (enc := D.py) (bs := ds) pl.isList e1 e2 (srtOk_alike ok) (srtOk_sort ok) (by rw [← len]; exact hz) (fun b hb => ?_) fun out ho he => ?_
  · have := (okd_shaped 60 b (okdL_mem ok1 hb)).2
    omega
  · have es : ds.mergeSort (PySem.W.dataLe false D.py) = srt ds := srt_eq ds
    rw [es] at he
    obtain ⟨zs, z1, z2⟩ := each_out he
    obtain ⟨ep, at'⟩ := PyProof.Rows.sortedAll_at s.heap its out.toArray
    have hlen : zs.length ≤ sizeLine := by
      rw [z1.length, ho, ← len]
      exact hz
    exact ⟨.ref _, upd H (s.heap.objs.size + 1) (.lst zs), I.laid (t' := s.toks) (fun _ _ => PyProof.Rows.sortedAll_old) (Nat.le_succ _) ⟨hlen, out, ep, z1, at'⟩, rfl, q zs _ z2 (I.hok.fresh (Nat.le_succ _))⟩
end
end DL

/-! The data layer, N2: sorted(list), sorted(dict). -/
namespace DL
open PySem L2

/-! ### the order in plain words -/
theorem leO_int (i j : Int) : leO (.int i) (.int j) = decide (i ≤ j) := by
  show (!PySem.W.dataLt (D.py (.int j)) (D.py (.int i))) = _
  rw [D.py, D.py, PySem.W.dataLt_int]
  by_cases h : j < i
  · rw [decide_eq_true h, decide_eq_false (by omega)]; rfl
  · rw [decide_eq_false h, decide_eq_true (by omega)]; rfl
theorem leO_str (x y : Str) : leO (.str x) (.str y) = !PySem.Spec.ltCps y.cps.toList x.cps.toList := by
  show (!PySem.W.dataLt (D.py (.str y)) (D.py (.str x))) = _
  rw [D.py, D.py, PySem.W.dataLt_str, PyProof.Rows.ltCps_eq]
theorem leO_pair (i j k l : Int) : leO (.tup [.int i, .int j]) (.tup [.int k, .int l]) = decide (i < k ∨ (i = k ∧ j ≤ l)) := by
  show (!PySem.W.dataLt (D.py (.tup [.int k, .int l])) (D.py (.tup [.int i, .int j]))) = _
  simp only [D.py, pyL]
  rw [PySem.W.dataLt_ii]
  by_cases h : k < i ∨ (k = i ∧ l < j)
  · rw [decide_eq_true h, decide_eq_false (by omega)]; rfl
  · rw [decide_eq_false h, decide_eq_true (by omega)]; rfl
theorem apt_ints (l : List Int) : Apt (l.map D.int) := by
  intro x hx y hy a b
  obtain ⟨i, _, rfl⟩ := List.mem_map.mp hx
  obtain ⟨j, _, rfl⟩ := List.mem_map.mp hy
  rw [leO_int, decide_eq_true_eq] at a b
  rw [show i = j by omega]
theorem apt_strs (l : List Str) : Apt (l.map D.str) := by
  intro x hx y hy a b
  obtain ⟨i, _, rfl⟩ := List.mem_map.mp hx
  obtain ⟨j, _, rfl⟩ := List.mem_map.mp hy
  rw [leO_str, PyProof.Rows.ltCps_eq, Bool.not_eq_true', decide_eq_false_iff_not] at a b
  have e : i.cps.toList = j.cps.toList := List.le_antisymm (List.not_lt.mp a) (List.not_lt.mp b)
  rw [PySem.W.str_of_cps e]
abbrev prD (p : Int × Int) : D := .tup [.int p.1, .int p.2]
theorem apt_pairs (l : List (Int × Int)) : Apt (l.map prD) := by
  intro x hx y hy a b
  obtain ⟨⟨i, j⟩, _, rfl⟩ := List.mem_map.mp hx
  obtain ⟨⟨k, m⟩, _, rfl⟩ := List.mem_map.mp hy
  rw [leO_pair, decide_eq_true_eq] at a b
  have h1 : i = k := by omega
  have h2 : j = m := by omega
  subst h1 h2
  rfl
theorem rising_le : ∀ (p : Str) (l : List Str), PyProof.Rows.risingS p l = true → (p :: l).Pairwise fun a b => leO (.str a) (.str b) = true
  | p, [], _ => List.pairwise_singleton _ _
  | p, x :: r, h => by
    have h' : (!PySem.Spec.ltCps x.cps.toList p.cps.toList && PyProof.Rows.risingS x r) = true := h
    rw [Bool.and_eq_true] at h'
    have ih := rising_le x r h'.2
    refine List.pairwise_cons.mpr ⟨fun y hy => ?_, ih⟩
    have a : leO (.str p) (.str x) = true := by rw [leO_str]; exact h'.1
    rcases List.mem_cons.mp hy with rfl | hy
    · exact a
    · exact leO_tot.trans _ _ _ a ((List.pairwise_cons.mp ih).1 y hy)
theorem sorted_le (l : List Str) (h : PyProof.Rows.sortedS l = true) : Up (l.map D.str) := by
  cases l with
  | nil => exact List.Pairwise.nil
  | cons p r => exact List.pairwise_map.mpr (rising_le p r h)

/-! ### sorted(..) -/
def sortA (m : Bool) : List D → List Ob → R D := fun ds μ => match ds with
  | [d] => match d.view μ with
    | .lst xs => if srtOk xs then (if m then .ok (.loc μ.length) (μ ++ [.lst (srt xs)]) else .ok (.lst (srt xs)) μ) else .bad
    | .frl xs => if srtOk xs then (if m then .ok (.loc μ.length) (μ ++ [.lst (srt xs)]) else .ok (.lst (srt xs)) μ) else .bad
    | .dct ks _ => match strsD (ks.map Key.d) with
      | some ss => if ss.length < 64 then (if m then .ok (.loc μ.length) (μ ++ [.lst (srt (ss.map D.str))]) else .ok (.lst (srt (ss.map D.str))) μ) else .bad
      | none => .bad
    | _ => .bad
  | _ => .bad
section
variable {X : Cx} {K : PySem.W.Frag} {γ : Hp} {α : List Addr} {F H : Hp} {μ : List Ob}
theorem keys_strs : ∀ {ks : List Key} {ss : List Str}, strsD (ks.map Key.d) = some ss → ks = ss.map Sum.inr
  | [], ss, h => by
    have e : strsD [] = some ss := h
    simp [strsD] at e
    subst e
    rfl
  | k :: ks, ss, h => by
    cases k with
    | inl i => have e : strsD (D.int i :: ks.map Key.d) = some ss := h; simp [strsD] at e
    | inr x =>
      have e : strsD (D.str x :: ks.map Key.d) = some ss := h
      simp only [strsD] at e
      cases q : strsD (ks.map Key.d) with
      | none => rw [q] at e; simp at e
      | some ys =>
        rw [q] at e
        simp at e
        subst e
        rw [keys_strs q]
        rfl
def rSortB (K : PySem.W.Frag) : List V → Hp → VK → Prop := fun xs H Q => rSortA K xs H Q ∨ (∃ (a : Addr) (kvs : List (Key × V)) (ks : List Str), xs = [.ref a] ∧ Rd H a (.dK kvs) ∧ kvs.map (·.1) = ks.map Sum.inr ∧ ks.length < 64 ∧
    ∀ ys p, ys.Perm ks → PyProof.Rows.sortedS ys = true → H p = none → Q (.ref p) (upd H p (.lst (ys.map V.str))))
theorem cr_sortB (hc : X.calm = true) (hu : X.A.units + 64 < cLine) : CallR X (.builtin "sorted") (rSortB X.K) := CallR.or (cr_sortA hu) (call_sortedD hc)
theorem opn_sort (m : Bool) : Opn K (rSortB K) (sortA m) := fun γ α F H μ vs ds Q E w hv q => by
  unfold sortA at q
  match ds, hv, q with
  | [], _, q => exact q.elim
  | _ :: _ :: _, _, q => exact q.elim
  | [d], hv, q =>
    obtain ⟨v, rfl, h⟩ := hv.one
    have vw := w.view h
    simp only at q
    cases hd : d.view μ with
    | lst xs =>
      rw [hd] at q vw
      obtain ⟨a, us, rfl, ha, l⟩ := vw
      simp only at q
      by_cases ok : srtOk xs = true
      · rw [if_pos ok] at q
        exact .inl ⟨γ, α, F, μ, a, us, xs, w, rfl, .inl (.inl ha), l, ok, fun zs l hz hl => fin_new w hl hz q⟩
      · rw [if_neg ok] at q; exact q.elim
    | frl xs =>
      rw [hd] at q vw
      obtain ⟨a, us, rfl, ha, l⟩ := vw
      simp only at q
      by_cases ok : srtOk xs = true
      · rw [if_pos ok] at q
        exact .inl ⟨γ, α, F, μ, a, us, xs, w, rfl, ha, l, ok, fun zs l hz hl => fin_new w hl hz q⟩
      · rw [if_neg ok] at q; exact q.elim
    | dct ks xs =>
      rw [hd] at q vw
      obtain ⟨a, kvs, rfl, ha, rfl, l⟩ := vw
      simp only at q
      cases hs : strsD ((kvs.map (·.1)).map Key.d) with
      | none => rw [hs] at q; exact q.elim
      | some ss =>
        rw [hs] at q
        simp only at q
        by_cases ok : ss.length < 64
        · rw [if_pos ok] at q
          refine .inr ⟨a, kvs, ss, rfl, ha, keys_strs hs, ok, fun ys p hp hy hl => ?_⟩
          have e : ys.map D.str = srt (ss.map D.str) := srt_one (hp.map _) (sorted_le ys hy) (apt_strs ss)
          refine fin_new w hl (xs := srt (ss.map D.str)) ?_ q
          rw [← e]
          exact is_strs ys
        · rw [if_neg ok] at q; exact q.elim
    | _ => rw [hd] at q; exact q.elim
end
section
variable {X : Cx} {W : WX} {e : Expr} {fs : RA} {pos p : Pos} {k : Nat}
theorem pd_sort (m : Bool) (g : Good X W k) (hm : X.mg "sorted" = none) (ha : PDA X W [e] fs) (hg : Gl X "sorted" := by rfl) (he : starEach [e] X.env = (false, eval e X.env) :: starEach [] X.env := by rfl) : PD X W (.Call (.Name "sorted" p) [e] [] pos) (rCB (sortA m) fs) :=
  pd_callB (cr_sortB g.calm (by have := g.hu; omega)) (opn_sort m) PyProof.Rows.boot_sorted hm ha hg (by decide) (by decide) he rfl
end
end DL

/-! The data layer, N3: set(xs) of a list, told by an invariant of the set's object; sets of texts. -/
namespace DL
open PySem L2 PySem.Spec PyProof.Rows
/-- an empty set, as it is made -/
abbrev newSet (w : World) : Obj := { cls := .type "set", dict := none, data := .set #[] 0 (.fresh 0 0 (!w.params.followText "set-order")) }
/-- what is known of a set that holds the first i items -/
structure SetInv (P : Program) (w : World) (items : Array Value) (J : Addr → Heap → Nat → Prop) : Prop where
  zero : ∀ h a, h.get? a = some (newSet w) → J a h 0
  keep : ∀ a h h' i, J a h i → (∀ o, h.get? a = some o → h'.get? a = some o) → J a h' i
  add : ∀ (A : Around) (E : Value → Shared → Prop) a i v (s : Shared) (Q : Bool → Shared → Prop), items[i]? = some v → J a s.heap i →
    (∀ b h', Heap.SameBut a s.heap h' → J a h' (i + 1) → Q b { s with heap := h', toks := s.toks + 1 }) → wpAny (model P w) A (setAdd a v) Q E s
section
variable {P : Program} {w : World} {A : Around} {items : Array Value} {J : Addr → Heap → Nat → Prop}
theorem fill_loop (SI : SetInv P w items J) {I : Addr} {fp wr : List Addr} {G : Array GenState → Array GenState → Prop} {St : Nat → Shared → Prop} {R : Result → Shared → Prop}
    (W : WalksS P w A.in1 I fp wr G items.size (fun i v => items[i]? = some v) St) (a : Addr) (ha : a ∉ fp) (B : Shared → Prop)
    (fin : ∀ s', J a s'.heap items.size → B s' → R (.ok (.ret .none)) s') (bk : ∀ s s', B s → Moved (a :: wr) G s s' → B s') :
    ∀ (m i : Nat) (s : Shared), items.size - i = m → i ≤ items.size → St i s → J a s.heap i → B s → codeAny (model P w) A (.builtin "set.update.loop" ⟨[.ref a, .ref I], []⟩) R s := by
  have hw : a ∉ wr := fun h => ha (W.sub _ h)
  have grow : ∀ b ∈ wr, b ∈ a :: wr := fun b hb => List.mem_cons_of_mem _ hb
  intro m
  induction m with
  | zero =>
    intro i s em hi st j b
    obtain rfl : i = items.size := by omega
    refine codeAny_builtin F.entry_set_update_loop ?_
    rw [Around.under_plainId F.plain_set_update_loop _]
    show wpAny _ A.in1 (pyNext (.ref I) >>= _) _ _ s
    exact wpAny_bind (W.done s _ _ st fun s' mv => wpAny_pure (fin s' (SI.keep _ _ _ _ j fun o e => mv.heap a o hw e) (bk _ _ b (mv.mono grow))))
  | succ m ih =>
    intro i s em hi st j b
    have lt : i < items.size := by omega
    refine codeAny_builtin F.entry_set_update_loop ?_
    rw [Around.under_plainId F.plain_set_update_loop _]
    show wpAny _ A.in1 (pyNext (.ref I) >>= _) _ _ s
    refine wpAny_bind (W.item i s _ _ lt st fun v s' hv st' mv => ?_)
    have j' : J a s'.heap i := SI.keep _ _ _ _ j fun o e => mv.heap a o hw e
    show wpAny _ A.in1 (holding [v] (setAdd a v) >>= _) _ _ s'
    refine wpAny_bind (wpAny_holding (SI.add _ _ a i v s' _ hv j' fun _ h2 sb j2 => ?_))
    have mv2 : Moved (a :: wr) G s { s' with heap := h2, toks := s'.toks + 1 } := (mv.mono grow).then_heap (Nat.le_succ _) fun c o hc e => by
      rw [sb.2 c fun z : c = a => hc (by rw [z]; exact List.mem_cons_self)]
      exact e
    exact wpAny_pure ⟨plainId_quiet F.plain_set_update_loop _, ih (i + 1) _ (by omega) lt (W.frame _ s' _ _ st' (Nat.le_succ _) fun c hc o e => by
      rw [sb.2 c fun z : c = a => ha (by rw [← z]; exact hc)]
      exact e) j2 (bk _ _ b mv2)⟩

variable {E : Value → Shared → Prop} {s : Shared}
/-- set(xs) of a list -/
theorem set_list (SI : SetInv P w items J) {l : Addr} {Q : Value → Shared → Prop} (hh : A.handled = none) (hl : s.heap.IsList l items)
    (h : ∀ (h' : Heap) (tk : Nat), J s.heap.objs.size h' items.size → (∀ b o, s.heap.get? b = some o → h'.get? b = some o) → Q (.ref s.heap.objs.size) { s with heap := h', toks := tk }) :
    wpAny (model P w) A (call (.type "set") [.ref l]) Q E s := by
  obtain ⟨c, tl, hmro⟩ := F.called_set.mro
  have q1 := F.called_set.made
  have q2 := F.called_set.sub
  have q3 := F.called_set.notType
  have q4 := F.called_set.canCreate
  have q5 := F.typeCall_set_1 (.ref l)
  refine wpAny_call (codeAny_of_tree ?_)
  show wpAny _ _ (callAny (.type "set") _) _ _ _
  refine wpAny_pure ⟨Code.quiet_builtin _ (by decide +kernel), codeAny_builtin F.entry_type_call ?_⟩
  rw [Around.under_plain (weight_type_call_type "set" [.ref l] []) rfl]
  repeat (any_goals (first | assumption | wp_step))
  refine codeAny_mono (code_set_led1 (.ref l) (E := E) (Q₁ := fun ob t => ob = .ref s.heap.objs.size ∧ t = { s with heap := s.heap.push (newSet w) }) ⟨rfl, rfl⟩) fun r t hr => ?_
  match r, hr with
  | .ok (.ret ob), hr =>
    obtain ⟨rfl, rfl⟩ := hr
    have at0 : (s.heap.push (newSet w)).get? s.heap.objs.size = some (newSet w) := Heap.get?_push_size _ rfl
    have ty : Shared.TypeIs { s with heap := s.heap.push (newSet w) } (.ref s.heap.objs.size) "set" := ⟨_, at0, rfl⟩
    have q6 := F.called_set.init.lookup
    have q7 := F.called_set.init.bind (.ref s.heap.objs.size)
    repeat (any_goals (first | assumption | wp_step))
    refine codeAny_mono (codeAny_call_builtin (R := wants (fun r t => r = .none ∧ ∃ h' tk, t = { s with heap := h', toks := tk } ∧ J s.heap.objs.size h' items.size ∧ (∀ b o, s.heap.get? b = some o → h'.get? b = some o)) E)
      F.called_set.init.plain F.entry_set_init (check_set_init_1 ty ?_)) fun r2 t2 hr2 => ?_
    · obtain ⟨⟨cls, dd, dt, sl⟩, ol, ec, nl, ed⟩ := hl
      simp only at ec ed
      subst ec ed
      have at1 : (s.heap.push (newSet w)).get? l = some { cls := .type "list", dict := dd, data := .seq items nl, slots := sl } := Heap.get?_push_of_some _ ol
      have il : (s.heap.push (newSet w)).IsList l items := ⟨_, at1, rfl, nl, rfl⟩
      have q8 := F.sub_list_set
      have q9 := F.sub_list_frozenset
      have q10 : (Value.type "list" == Value.type "dict") = false := by decide
      unfold Builtin.«set.__init__» noKeywords Builtin.Frozenset.updateFrom
      generalize ei : pyIter = it
      wp_walk
      subst ei
      refine wpAny_pyIter_list il (wpAny_bind (wpAny_runValue ?_))
      have lt : l < s.heap.objs.size := Heap.lt_size ol
      have sz : (s.heap.push (newSet w)).objs.size = s.heap.objs.size + 1 := Heap.size_push ..
      have ne : l ≠ (s.heap.push (newSet w)).objs.size := by rw [sz]; exact Nat.ne_of_lt (Nat.lt_succ_of_lt lt)
      have out : s.heap.objs.size ∉ [(s.heap.push (newSet w)).objs.size, l] := by
        rw [sz]
        intro z
        rcases List.mem_cons.mp z with z | z
        · exact absurd z (Nat.ne_of_lt (Nat.lt_succ_self _))
        · rw [List.mem_singleton] at z
          exact absurd z.symm (Nat.ne_of_lt lt)
      have h3 : A.in1.in1.in1.handled = none := by simp [hh]
      refine fill_loop SI ((Walks.list h3 _ l ne items).toS) s.heap.objs.size out
        (fun t => t.gens = s.gens ∧ t.drawn = s.drawn ∧ t.os = s.os ∧ ∀ b o, s.heap.get? b = some o → t.heap.get? b = some o) (fun t j b => ?_) (fun t t' b mv => ?_) (items.size - 0) 0 _ (by omega) (Nat.zero_le _) ⟨⟨_, Heap.get?_push_size _ rfl, rfl, rfl⟩, il.push _⟩ ?_ ?_
      · obtain ⟨t1, t2, t3, t4, t5⟩ := t
        obtain ⟨b1, b2, b3, b4⟩ := b
        simp only at b1 b2 b3
        subst b1 b2 b3
        show wpAny _ _ _ _ _ _
        refine wpAny_pure ?_
        show wpAny _ _ (ret Value.none) _ _ _
        exact wpAny_pure ⟨rfl, t1, t4, rfl, j, b4⟩
      · refine ⟨Eq.trans mv.gens b.1, Eq.trans mv.drawn b.2.1, Eq.trans mv.os b.2.2.1, fun c o e => mv.heap c o (fun z => ?_) (b.2.2.2 c o e)⟩
        have lc : c < s.heap.objs.size := Heap.lt_size e
        rcases List.mem_cons.mp z with z | z
        · exact absurd z (Nat.ne_of_lt lc)
        · rw [List.mem_singleton, sz] at z
          exact absurd z (Nat.ne_of_lt (Nat.lt_succ_of_lt lc))
      · exact SI.zero _ _ (Heap.get?_push_of_some _ at0)
      · exact ⟨rfl, rfl, rfl, fun b o e => Heap.get?_push_of_some _ (Heap.get?_push_of_some _ e)⟩
    · match r2, hr2 with
      | .ok (.ret r), hr2 =>
        obtain ⟨rfl, h', tk, rfl, j, k⟩ := hr2
        repeat (any_goals (first | assumption | wp_step))
        exact h _ _ j k
      | .error e, hr2 => exact hr2
  | .error e, hr => exact hr
end
end DL

/-! The data layer, N4: sets of ints, of texts. -/
namespace DL
open PySem L2 PySem.Spec PyProof.Rows PySem.Froz
section
variable {P : Program} {w : World} {A : Around} {E : Value → Shared → Prop} {s : Shared} {items : Array Value}
abbrev JInt (w : World) (ns : List Int) (a : Addr) (h : Heap) (i : Nat) : Prop := ∃ c, c ≤ i ∧ SetR w h a (fun j => decide (j ∈ ns.take i)) c
theorem inv_ints {ns : List Int} (hi : IntsAre items.toList ns) (hb : ns.length + 1 < scanBound) : SetInv P w items (JInt w ns) where
  zero := fun h a ho => ⟨0, Nat.le_refl _, setR_new_at ho⟩
  keep := fun a h h' i ⟨c, hc, j⟩ k => ⟨c, hc, j.at k⟩
  add := fun A E a i v s Q hv ⟨c, hc, j⟩ h => by
    have li : i < items.size := (Array.getElem?_eq_some_iff.mp hv).1
    have len : items.size = ns.length := by
      have q := IntsAre.length hi
      rw [Array.length_toList] at q
      exact q
    have lt : i < ns.length := by omega
    obtain ⟨t, rfl⟩ := PyProof.Rows.IntsAre.int_at hi i v (by rw [Array.getElem?_toList]; exact hv)
    have hz : ns[i]? = some (ns.getD i 0) := by rw [List.getD_eq_getElem?_getD, List.getElem?_eq_getElem lt]; rfl
    unfold setAdd
    refine wpAny_holding (wpAny_bind ((intKind P w).pyHash (k := ns.getD i 0) (intKind_is _ _ _ _) ?_))
    refine setR_add_hashed (s := { s with toks := s.toks + 1 }) j (by omega) fun h' sb r => h _ _ sb ⟨_, ?_, r.congr fun k => ?_⟩
    · split <;> omega
    · rw [List.take_add_one, hz]
      simp [List.mem_append]

/-! ### texts -/
theorem tailTx_ris {ep : Nat} {es : Array (Int × Value)} {t : SetTable} {b : Bool} (h : Ris t.place.toList) : Ris (tailTx ep es t b).2.2.place.toList ∧ (tailTx ep es t b).2.2.led = t.led := by
  unfold tailTx
  split
  · exact ⟨relayAll_ris t es _, relayAll_led t es _⟩
  · exact ⟨h, rfl⟩
theorem addTx_ris {D : SD} {hs : Int} {v : Value} (h : Ris D.2.2.place.toList) : Ris (addTx hs v D).2.2.place.toList ∧ (addTx hs v D).2.2.led = D.2.2.led := by
  unfold addTx
  have h1 := layNew_ris D.2.2 D.1 hs v h
  have h2 := layNew_led D.2.2 D.1 hs v
  split
  · obtain ⟨a, b⟩ := tailTx_ris (ep := D.2.1) (es := (layNew D.2.2 D.1 hs v).1) (t := { (layNew D.2.2 D.1 hs v).2.1 with plain := false }) (b := (layNew D.2.2 D.1 hs v).2.2.1) h1
    exact ⟨a, b.trans h2⟩
  · obtain ⟨a, b⟩ := tailTx_ris (ep := D.2.1) (es := (layNew D.2.2 D.1 hs v).1) (t := (layNew D.2.2 D.1 hs v).2.1) (b := (layNew D.2.2 D.1 hs v).2.2.1) h1
    exact ⟨a, b.trans h2⟩
/-- the set at a holds the texts ks, each once, and can be walked -/
structure TxR (P : Program) (w : World) (a : Addr) (h : Heap) (ks : List Str) (D : SD) : Prop where
  ob : h.get? a = some (sObj "set" D)
  ok : TxOk P w D ks
  nd : ks.Nodup
  ris : Ris D.2.2.place.toList
  led : w.params.followText "set-order" = true ∨ D.2.2.led = true
theorem add_old {a : Addr} {ks : List Str} {D : SD} {k : Str} {u : Tok} {Q : Bool → Shared → Prop} (R : TxR P w a s.heap ks D) (hk : k ∈ ks) (hb : ks.length < scanBound) (h : Q false s) :
    wpAny (model P w) A (setAddHashed a (.str k u) (hashStr w k)) Q E s := by
  obtain ⟨es, ep, t⟩ := D
  obtain ⟨ob, ok, _, _, _⟩ := R
  have sz : es.size = ks.length := ok.sz
  unfold setAddHashed setAddHashedIn
  refine wpAny_holding (wpAny_bind (wpAny_setState_of ob rfl ok.fit ?_))
  dsimp only
  rw [byScan_of (knd := strKind P w) rfl (by show es.size < scanBound; omega) ok.el]
  simp only [↓reduceIte]
  unfold setAddByScan
  refine wpAny_bind (wpAny_bind (wpAny_rule (wpAny_bind (wpAny_setScan_of (knd := strKind P w) (k := k) (is_str k u) ob rfl ok.fit ok.el ?_))))
  obtain ⟨e, he, q⟩ := (ok.mem k).mp hk
  cases hf : List.findIdx? (fun e => (strKind P w).is k e.2) es.toList with
  | none =>
    have c := List.findIdx?_eq_none_iff.mp hf e he
    rw [q] at c
    cases c
  | some j => exact wpAny_pure (wpAny_pure h)
abbrev JTx (P : Program) (w : World) (ss : List Str) (a : Addr) (h : Heap) (i : Nat) : Prop := ∃ ks D, TxR P w a h ks D ∧ (∀ k, k ∈ ks ↔ k ∈ ss.take i) ∧ ks.length ≤ i
theorem inv_strs {ss : List Str} (hi : StrsAre items.toList ss) (hb : ss.length + 1 < scanBound) : SetInv P w items (JTx P w ss) where
  zero := fun h a ho => ⟨[], (#[], 0, .fresh 0 0 (!w.params.followText "set-order")), ⟨ho, TxOk.nil rfl, List.nodup_nil, List.Pairwise.nil, by
    show _ ∨ (!w.params.followText "set-order") = true
    cases w.params.followText "set-order"
    · exact .inr rfl
    · exact .inl rfl⟩, by simp, Nat.le_refl _⟩
  keep := fun a h h' i ⟨ks, D, ⟨o, r1, r2, r3, r4⟩, q⟩ k => ⟨ks, D, ⟨k _ o, r1, r2, r3, r4⟩, q⟩
  add := fun A E a i v s Q hv ⟨ks, D, R, hm, hl⟩ h => by
    have li : i < items.size := (Array.getElem?_eq_some_iff.mp hv).1
    have len : items.size = ss.length := by rw [← Array.length_toList]; exact StrsAre.len_eq hi
    have lt : i < ss.length := by omega
    obtain ⟨t, rfl⟩ := SS.strs_at hi i v (by rw [Array.getElem?_toList]; exact hv)
    have hz : ss[i]? = some (ss.getD i Str.empty) := by rw [List.getD_eq_getElem?_getD, List.getElem?_eq_getElem lt]; rfl
    have tk : ∀ k, k ∈ ss.take (i + 1) ↔ k ∈ ss.take i ∨ k = ss.getD i Str.empty := fun k => by
      rw [List.take_add_one, hz]
      simp [List.mem_append]
    generalize ss.getD i Str.empty = z at *
    unfold setAdd
    refine wpAny_holding (wpAny_bind ((strKind P w).pyHash (k := z) (is_str z t) ?_))
    by_cases c : z ∈ ks
    · exact add_old (s := { s with toks := s.toks + 1 }) R c (by omega) (h _ s.heap (Heap.SameBut.refl a s.heap) ⟨ks, D, R, fun k => by
        rw [tk, ← hm]
        exact ⟨.inl, fun q => q.elim id fun q => q ▸ c⟩, by omega⟩)
    · obtain ⟨r1, r2⟩ := addTx_ris (hs := hashStr w z) (v := .str z t) R.ris
      refine add_x (s := { s with toks := s.toks + 1 }) R.ob R.ok c (by omega) (h _ _ (Heap.SameBut.update s.heap a _) ⟨z :: ks, _, ⟨get_upd _ R.ob rfl, add_ok t R.ok, List.nodup_cons.mpr ⟨c, R.nd⟩, r1, R.led.imp id fun q => r2.trans q⟩, fun k => ?_, by rw [List.length_cons]; omega⟩)
      rw [tk, ← hm, List.mem_cons]
      exact Or.comm
/-- many members of as few places -/
theorem nodup_perm {β : Type} [DecidableEq β] : ∀ {l m : List β}, l.Nodup → (∀ x ∈ l, x ∈ m) → m.length ≤ l.length → m.Perm l
  | [], m, _, _, h => by
    have e : m = [] := List.eq_nil_of_length_eq_zero (by simpa using h)
    rw [e]
  | x :: l, m, d, s, h => by
    obtain ⟨d1, d2⟩ := List.nodup_cons.mp d
    have hx := s x List.mem_cons_self
    have p : m.Perm (x :: m.erase x) := List.perm_cons_erase hx
    refine p.trans (List.Perm.cons x (nodup_perm d2 (fun y hy => ?_) ?_))
    · exact (List.mem_erase_of_ne (fun e : y = x => d1 (by rw [← e]; exact hy))).mpr (s y (List.mem_cons_of_mem _ hy))
    · rw [List.length_erase_of_mem hx]
      rw [List.length_cons] at h
      omega
end
end DL

/-! The data layer, N5: sets as rules: set(list), sorted(set). -/
namespace DL
open PySem L2 PySem.Spec PyProof.Rows PySem.Froz
def strV : Value → Str
  | .str k _ => k
  | _ => Str.empty
theorem each_str : ∀ {vs : List Value}, (∀ v ∈ vs, ∃ k t, v = Value.str k t) → PySem.W.EachIs (fun u k => ∃ t, u = Value.str k t) vs (vs.map strV)
  | [], _ => .nil
  | v :: vs, h => by
    obtain ⟨k, t, rfl⟩ := h v List.mem_cons_self
    exact .cons ⟨t, rfl⟩ (each_str fun u hu => h u (List.mem_cons_of_mem _ hu))
theorem each_vals : ∀ {us : List Value} {ks : List Str}, PySem.W.EachIs (fun u k => ∃ t, u = Value.str k t) us ks → Vals (ks.map V.str) us
  | _, _, .nil => .nil
  | _, _, .cons ⟨t, e⟩ r => .cons ⟨t, e⟩ (each_vals r)
theorem upS {a b : Str} (h : PySem.W.dataLe false PyData.str a b = true) : leO (.str a) (.str b) = true := by
  have e := congrFun (congrFun (PySem.W.dataLe_str (β := Str) fun x => x) a) b
  rw [leO_str, ltCps_eq]
  have h2 : decide (a.cps.toList ≤ b.cps.toList) = true := by rw [← e]; exact h
  rw [decide_eq_true_eq] at h2
  rw [decide_eq_false (List.not_lt.mpr h2)]
  rfl
section
variable {P : Program} {w : World} {A : Around} {E : Value → Shared → Prop} {s : Shared}
theorem sorted_tx {a : Addr} {ks : List Str} {D : SD} {Q : Value → Shared → Prop} (R : TxR P w a s.heap ks D) (hh : A.handled = none) (hu : A.units + 64 < cLine) (hb : ks.length ≤ 1000)
    (h : ∀ s' p (out : List Value) (c : Nat) (ys : List Str), (∀ b o, s.heap.get? b = some o → s'.heap.get? b = some o) → s'.gens = s.gens → s'.os = s.os → s.heap.objs.size ≤ p → s'.heap.get? p = some (seqObj "list" out.toArray c) →
      Vals (ys.map V.str) out → ys.Perm ks → Up (ys.map DL.D.str) → Q (.ref p) s') : wpAny (model P w) A (call (.builtin "sorted") [.ref a]) Q E s := by
  obtain ⟨es, ep, t⟩ := D
  obtain ⟨ob, ok, nd, ris, led⟩ := R
  have sz : es.size = ks.length := ok.sz
  refine Calls.call_function_entry kind_sorted plain_sorted entry_sorted (args_sorted1 _) ?_
  unfold Builtin.«sorted»
  refine wpAny_bind (m := checkCount "sorted" 1 1 _) (wpAny_pure ?_)
  refine wpAny_bind (collect_set (A := A.in1) hh ⟨_, ob, rfl, rfl⟩ ok.fit (by show es.size < scanBound; unfold scanBound; omega) ris led fun s1 vs k1 hz g1 o1 pm => ?_)
  have len : vs.length = ks.length := by
    rw [pm.length_eq, List.length_map, Array.length_toList]
    exact sz
  have small : vs.length ≤ sizeLine := by rw [len, sizeLine_eq]; omega
  have shape : ∀ v ∈ vs, ∃ k u, v = Value.str k u := fun v hv => by
    obtain ⟨e, he, q⟩ := List.mem_map.mp (pm.mem_iff.mp hv)
    obtain ⟨⟨k, q1, _⟩, _⟩ := ok.el e he
    rw [q] at q1
    cases v with
    | str y u => exact ⟨y, u, rfl⟩
    | _ => exact absurd q1 (by simp [PySem.strKind, Value.isStrOf])
  have pk : (vs.map strV).Perm ks := by
    refine nodup_perm nd (fun x hx => ?_) (by rw [List.length_map, len]; exact Nat.le_refl _)
    obtain ⟨e, he, q⟩ := (ok.mem x).mp hx
    have hv : e.2 ∈ vs := pm.mem_iff.mpr (List.mem_map.mpr ⟨e, he, rfl⟩)
    obtain ⟨k, u, e2⟩ := shape _ hv
    refine List.mem_map.mpr ⟨e.2, hv, ?_⟩
    rw [e2] at q ⊢
    exact (PySem.strKind P w).inj (.str k u) k x (is_str k u) q
  refine wpAny_bind (wpAny_newList ?_ small)
  have at0 : (s1.heap.push (seqObj "list" vs.toArray 0)).get? s1.heap.objs.size = some (seqObj "list" vs.toArray 0) := Heap.get?_push_size _ rfl
  have hS : PySem.W.Sortable ((vs.map strV).map PyData.str) := PySem.W.Sortable.others fun b => ⟨by simp, by simp⟩
  have er : PySem.W.EachIs (fun u k => ∃ as, Reads (s1.heap.push (seqObj "list" vs.toArray 0)) u (PyData.str k) as ∧ s1.heap.objs.size ∉ as) vs (vs.map strV) :=
    (each_str shape).mono fun u k ⟨t, e⟩ => ⟨[], by rw [e]; exact .str _ _, by simp⟩
  refine wpAny_bind (wpAny_holding (PySem.W.list_sort_data (s := { s1 with heap := s1.heap.push (seqObj "list" vs.toArray 0) }) (enc := PyData.str) at0 (each_str shape) er (PySem.W.AllAlike.of fun b b' => by simp [PySem.W.alike]) hS
    (by rw [List.length_map]; exact small) (fun b _ => ?_) fun out ho he => ?_))
  · have q : (PyData.str b).depth = 0 := by simp [PyData.depth]
    show A.in1.units + 1 + (PyData.str b).depth < cLine
    rw [q]
    have : A.in1.units ≤ A.units + 60 := by
      show A.units + 1 ≤ A.units + 60
      omega
    omega
  · obtain ⟨c, hc⟩ := sortedHeap_at (vs := vs) (out := out.toArray) at0
    refine wpAny_pure ⟨_, rfl, h { s1 with heap := sortedHeap (s1.heap.push (seqObj "list" vs.toArray 0)) s1.heap.objs.size vs out.toArray } s1.heap.objs.size out c _ (fun b u e => ?_) g1 o1 hz hc (each_vals he) ((List.mergeSort_perm _ _).trans pk) ?_⟩
    · have q := k1 b u e
      have lt := Heap.lt_size q
      show (sortedHeap (s1.heap.push (seqObj "list" vs.toArray 0)) s1.heap.objs.size vs out.toArray).get? b = some u
      rw [sortedHeap_old (Nat.ne_of_lt lt) (by rw [size_push']; exact Nat.lt_succ_of_lt lt)]
      exact Heap.get?_push_of_some _ q
    · exact List.pairwise_map.mpr ((PySem.W.sort_pairwise (PySem.W.sortLe_total _ false _) _).imp fun q => upS q)
end
/-- the set of the texts ss -/
def SetTx (P : Program) (w : World) (a : Addr) (ss : List Str) : HO := .ext fun h => ∃ ks D, TxR P w a h ks D ∧ (∀ k, k ∈ ks ↔ k ∈ ss) ∧ ks.length ≤ ss.length
theorem setTx_new {P : Program} {w : World} {H : Hp} {h : Heap} {a : Addr} {ss ks : List Str} {D : SD} (R : TxR P w a h ks D) (m : ∀ k, k ∈ ks ↔ k ∈ ss) (l : ks.length ≤ ss.length) : ObjOk P w H h a (SetTx P w a ss) :=
  ⟨⟨ks, D, R, m, l⟩, ⟨_, R.ob⟩, fun h1 h2 ⟨ks, D, R, q⟩ k => ⟨ks, D, ⟨k _ R.ob, R.ok, R.nd, R.ris, R.led⟩, q⟩⟩
section
variable {X : Cx}
def rSetL (K : PySem.W.Frag) (P : Program) (w : World) : List V → Hp → VK → Prop := fun xs H Q =>
  (∃ (l : Addr) (ns : List Int), xs = [V.ref l] ∧ SqL K H l (ns.map V.int) ∧ ns.length < 64 ∧ ∀ a c, H a = none → c ≤ ns.length → Q (.ref a) (upd H a (SetO w a (fun j => decide (j ∈ ns)) c))) ∨
  ((∃ (l : Addr) (ss : List Str), xs = [V.ref l] ∧ SqL K H l (ss.map V.str) ∧ ss.length ≤ 1000 ∧ ∀ a, H a = none → Q (.ref a) (upd H a (SetTx P w a ss))) ∨ rSetOfT K P w xs H Q)
theorem cr_setL (hc : X.calm = true) (hu : X.A.units + 64 < cLine) : CallR X (.type "set") (rSetL X.K X.prog X.w) := by
  refine CallR.or ?_ (CallR.or ?_ (cr_setOfT hc hu))
  · intro pins s σ H xs us Q I r h
    obtain ⟨l, ns, rfl, hl, hn, q⟩ := h
    obtain ⟨its, rv, pl, hz⟩ := I.list hl
    rw [Vals.ref1 r]
    have ii : IntsAre its.toArray.toList ns := by simpa using rv.ints
    have li : its.toArray.size = ns.length := by
      have := IntsAre.length ii
      rw [Array.length_toList] at this
      exact this
    refine set_list (inv_ints ii (by unfold scanBound; omega)) (I.ok.hd hc) pl.isList fun h' tk ⟨c, h1, h2⟩ k => ?_
    have e : ns.take its.toArray.size = ns := by rw [li]; exact List.take_length
    rw [e] at h2
    exact ⟨.ref s.heap.objs.size, upd H s.heap.objs.size _, I.laid (t' := tk) k (Nat.le_refl _) (setO_new h2), rfl, q _ c (I.hok.fresh (Nat.le_refl _)) (by rw [← li]; exact h1)⟩
  · intro pins s σ H xs us Q I r h
    obtain ⟨l, ss, rfl, hl, hn, q⟩ := h
    obtain ⟨its, rv, pl, hz⟩ := I.list hl
    rw [Vals.ref1 r]
    have ii : StrsAre its.toArray.toList ss := by simpa using rv.strs
    have li : its.toArray.size = ss.length := by rw [← Array.length_toList]; exact StrsAre.len_eq ii
    refine set_list (inv_strs ii (by unfold scanBound; omega)) (I.ok.hd hc) pl.isList fun h' tk ⟨ks, D, R, h1, h2⟩ k => ?_
    have e : ss.take its.toArray.size = ss := by rw [li]; exact List.take_length
    rw [e] at h1
    exact ⟨.ref s.heap.objs.size, upd H s.heap.objs.size _, I.laid (t' := tk) k (Nat.le_refl _) (setTx_new R h1 (by rw [← li]; exact h2)), rfl, q _ (I.hok.fresh (Nat.le_refl _))⟩
def rSrtS (K : PySem.W.Frag) (P : Program) (w : World) : List V → Hp → VK → Prop := fun xs H Q => rSortedSet w xs H Q ∨
  ((∃ (a : Addr) (ss : List Str), xs = [V.ref a] ∧ H a = some (SetTx P w a ss) ∧ ss.length ≤ 1000 ∧ ∀ (ys : List Str) (p : Addr), ys.Nodup → (∀ k, k ∈ ys ↔ k ∈ ss) → Up (ys.map D.str) → H p = none → Q (.ref p) (upd H p (.lst (ys.map V.str)))) ∨ rSortedT K P w xs H Q)
theorem cr_srtS (hc : X.calm = true) (hu : X.A.units + 64 < cLine) : CallR X (.builtin "sorted") (rSrtS X.K X.prog X.w) := by
  refine CallR.or (cr_sortedSet hc) (CallR.or ?_ (cr_sortedT hc))
  intro pins s σ H xs us Q I r h
  obtain ⟨a, ss, rfl, ha, hn, q⟩ := h
  obtain ⟨ks, D, R, m, l⟩ := (I.hok a _ ha).1
  rw [Vals.ref1 r]
  refine sorted_tx R (I.ok.hd hc) hu (by omega) fun s' p out c ys k g o hp at0 rv pm up => ?_
  have hn' : H p = none := I.hok.fresh hp
  have lenY : (ys.map V.str).length ≤ sizeLine := by rw [List.length_map, pm.length_eq, sizeLine_eq]; omega
  have J : Inv X pins σ (upd H p (.lst (ys.map V.str))) { s with heap := s'.heap, gens := s'.gens, drawn := s'.drawn, toks := s'.toks } :=
    I.call (ch := []) (Un.laid k hp hn') (I.hok.laid k hp ⟨lenY, out, c, rv, at0⟩) (by rw [g]; exact I.bare) (fun _ z => nomatch z)
  have e : s' = { s with heap := s'.heap, gens := s'.gens, drawn := s'.drawn, toks := s'.toks } := by
    cases s'
    cases s
    cases o
    rfl
  rw [e]
  exact ⟨.ref p, _, J, rfl, q ys p (pm.nodup_iff.mpr R.nd) (fun k => (pm.mem_iff).trans (m k)) up hn'⟩
end
end DL

/-! The data layer, N6: sorted(set(xs)). -/
namespace DL
open PySem L2
section
variable {β : Type} [DecidableEq β]
def ddl : List β → List β
  | [] => []
  | x :: l => if x ∈ l then ddl l else x :: ddl l
theorem mem_ddl {y : β} : ∀ {l : List β}, y ∈ ddl l ↔ y ∈ l
  | [] => Iff.rfl
  | x :: l => by
    unfold ddl
    by_cases h : x ∈ l
    · rw [if_pos h, mem_ddl (l := l), List.mem_cons]
      exact ⟨.inr, fun q => q.elim (fun e => e ▸ h) id⟩
    · rw [if_neg h, List.mem_cons, mem_ddl (l := l), List.mem_cons]
theorem nodup_ddl : ∀ {l : List β}, (ddl l).Nodup
  | [] => List.nodup_nil
  | x :: l => by
    unfold ddl
    by_cases h : x ∈ l
    · rw [if_pos h]; exact nodup_ddl
    · rw [if_neg h]; exact List.nodup_cons.mpr ⟨fun q => h (mem_ddl.mp q), nodup_ddl⟩
theorem ddl_nodup : ∀ {l : List β}, l.Nodup → ddl l = l
  | [], _ => rfl
  | x :: l, h => by
    obtain ⟨h1, h2⟩ := List.nodup_cons.mp h
    unfold ddl
    rw [if_neg h1, ddl_nodup h2]
theorem same_perm : ∀ {l m : List β}, l.Nodup → m.Nodup → (∀ x, x ∈ l ↔ x ∈ m) → l.Perm m
  | [], [], _, _, _ => List.Perm.refl _
  | [], y :: m, _, _, h => absurd ((h y).mpr List.mem_cons_self) (by simp)
  | x :: l, m, d, e, h => by
    obtain ⟨d1, d2⟩ := List.nodup_cons.mp d
    have hx := (h x).mp List.mem_cons_self
    refine (List.Perm.cons x (same_perm d2 (e.erase x) fun y => ?_)).trans (List.perm_cons_erase hx).symm
    rw [e.mem_erase_iff]
    constructor
    · intro hy
      exact ⟨fun z => d1 (z ▸ hy), (h y).mp (List.mem_cons_of_mem _ hy)⟩
    · rintro ⟨h1, h2⟩
      rcases List.mem_cons.mp ((h y).mpr h2) with z | z
      · exact absurd z h1
      · exact z
end
/-- each thing once, the last one of equal ones -/
def ddp : List D → List D
  | [] => []
  | x :: l => if l.any (fun y => x.eqb y) then ddp l else x :: ddp l
theorem ddp_map {β : Type} [DecidableEq β] {enc : β → D} (h : ∀ x y, (enc x).eqb (enc y) = decide (x = y)) : ∀ l : List β, ddp (l.map enc) = (ddl l).map enc
  | [] => rfl
  | x :: l => by
    have e : (l.map enc).any (fun y => (enc x).eqb y) = decide (x ∈ l) := by
      rw [List.any_map]
      rw [Bool.eq_iff_iff, List.any_eq_true, decide_eq_true_eq]
      constructor
      · rintro ⟨y, hy, q⟩
        have q' : (enc x).eqb (enc y) = true := q
        rw [h, decide_eq_true_eq] at q'
        rw [q']; exact hy
      · intro hx
        exact ⟨x, hx, by show (enc x).eqb (enc x) = true; rw [h]; exact decide_eq_true rfl⟩
    show (if (l.map enc).any (fun y => (enc x).eqb y) then ddp (l.map enc) else enc x :: ddp (l.map enc)) = (if x ∈ l then ddl l else x :: ddl l).map enc
    rw [e, ddp_map h l]
    by_cases c : x ∈ l
    · rw [if_pos c, if_pos (decide_eq_true c)]
    · rw [if_neg c, if_neg (by rw [decide_eq_false c]; exact Bool.false_ne_true)]
      rfl
theorem eqb_int (x y : Int) : (D.int x).eqb (D.int y) = decide (x = y) := by rw [D.eqb, Bool.eq_iff_iff, beq_iff_eq, decide_eq_true_eq]
theorem eqb_str (x y : Str) : (D.str x).eqb (D.str y) = decide (x = y) := by rw [D.eqb, Bool.eq_iff_iff, beq_iff_eq, decide_eq_true_eq]
theorem eqb_pr (x y : Int × Int) : (prD x).eqb (prD y) = decide (x = y) := by
  obtain ⟨a, b⟩ := x
  obtain ⟨c, d⟩ := y
  simp only [prD, D.eqb, eqbL, Bool.and_true]
  rw [Bool.eq_iff_iff, Bool.and_eq_true, beq_iff_eq, beq_iff_eq, decide_eq_true_eq, Prod.mk.injEq]
def intsD : List D → Option (List Int)
  | [] => some []
  | .int i :: r => (intsD r).map (i :: ·)
  | _ => none
def prsD : List D → Option (List (Int × Int))
  | [] => some []
  | .tup [.int i, .int j] :: r => (prsD r).map ((i, j) :: ·)
  | _ => none
theorem intsD_map : ∀ ns : List Int, intsD (ns.map D.int) = some ns
  | [] => rfl
  | n :: r => by show (intsD (r.map D.int)).map (n :: ·) = _; rw [intsD_map r]; rfl
theorem prsD_map : ∀ ns : List (Int × Int), prsD (ns.map prD) = some ns
  | [] => rfl
  | n :: r => by show (prsD (r.map prD)).map (n :: ·) = _; rw [prsD_map r]; rfl
theorem intsD_is : ∀ {xs : List D} {ns : List Int}, intsD xs = some ns → xs = ns.map D.int
  | [], ns, h => by simp [intsD] at h; subst h; rfl
  | x :: xs, ns, h => by
    cases x with
    | int i =>
      simp only [intsD] at h
      cases q : intsD xs with
      | none => rw [q] at h; simp at h
      | some ys => rw [q] at h; simp at h; subst h; rw [intsD_is q]; rfl
    | _ => simp [intsD] at h
theorem strsD_is : ∀ {xs : List D} {ns : List Str}, strsD xs = some ns → xs = ns.map D.str
  | [], ns, h => by simp [strsD] at h; subst h; rfl
  | x :: xs, ns, h => by
    cases x with
    | str i =>
      simp only [strsD] at h
      cases q : strsD xs with
      | none => rw [q] at h; simp at h
      | some ys => rw [q] at h; simp at h; subst h; rw [strsD_is q]; rfl
    | _ => simp [strsD] at h
theorem prsD_is : ∀ {xs : List D} {ns : List (Int × Int)}, prsD xs = some ns → xs = ns.map prD
  | [], ns, h => by simp [prsD] at h; subst h; rfl
  | x :: xs, ns, h => by
    unfold prsD at h
    split at h
    · rename_i heq; cases heq
    · rename_i i j r heq
      cases heq
      cases q : prsD xs with
      | none => rw [q] at h; simp at h
      | some ys => rw [q] at h; simp at h; subst h; rw [prsD_is q]; rfl
    · cases h
def setOk (xs : List D) : Bool := match intsD xs with
  | some ns => decide (ns.length < 64)
  | none => match strsD xs with
    | some ss => decide (ss.length ≤ 1000)
    | none => match prsD xs with
      | some ps => decide (ps.length < 64) && ps.all fun p => decide (0 ≤ p.1 ∧ p.1 < 64 ∧ 0 ≤ p.2 ∧ p.2 < 64)
      | none => false
def rSS (f : RE) : RE := fun δ μ => (f δ μ).bind fun d μ1 => match d.view μ1 with
  | .lst xs => if setOk xs then .ok (.lst (srt (ddp xs))) μ1 else .bad
  | .frl xs => if setOk xs then .ok (.lst (srt (ddp xs))) μ1 else .bad
  | _ => .bad
section
variable {K : PySem.W.Frag} {γ : Hp} {α : List Addr} {F H : Hp} {μ : List Ob}
theorem is_ints : ∀ {ns : List Int} {vs : List V}, IsL K α F vs (ns.map D.int) → vs = ns.map V.int
  | [], _, .nil => rfl
  | n :: r, _, .cons h t => by
    cases h
    rw [is_ints t]; rfl
theorem is_strs' : ∀ {ns : List Str} {vs : List V}, IsL K α F vs (ns.map D.str) → vs = ns.map V.str
  | [], _, .nil => rfl
  | n :: r, _, .cons h t => by
    cases h
    rw [is_strs' t]; rfl
theorem is_prs : ∀ {ps : List (Int × Int)} {vs : List V}, IsL K α F vs (ps.map prD) → ∃ ks : List (Addr × List Int), vs = ks.map (fun p => V.ref p.1) ∧ ks.map (·.2) = ps.map (fun p => [p.1, p.2]) ∧ ∀ p ∈ ks, SqT K F p.1 (p.2.map V.int)
  | [], _, .nil => ⟨[], rfl, rfl, by simp⟩
  | (i, j) :: r, _, .cons h t => by
    obtain ⟨ks, rfl, e, m⟩ := is_prs t
    cases h with
    | @tup a vs _ hs l =>
      have q : vs = [i, j].map V.int := is_ints (ns := [i, j]) l
      subst q
      refine ⟨(a, [i, j]) :: ks, rfl, by rw [List.map_cons, e]; rfl, fun p hp => ?_⟩
      rcases List.mem_cons.mp hp with rfl | hp
      · exact hs
      · exact m p hp
end
end DL

/-! The data layer, N7: the rule of sorted(set(xs)). -/
namespace DL
open PySem L2
section
variable {K : PySem.W.Frag} {γ : Hp} {α : List Addr} {F H : Hp} {μ : List Ob} {P : Program} {w : World}
theorem sset_ints {ns ns' : List Int} (up : ns'.Pairwise (· < ·)) (m : ∀ k : Int, k ∈ ns' ↔ decide (k ∈ ns) = true) : ns'.map D.int = srt (ddp (ns.map D.int)) := by
  rw [ddp_map eqb_int]
  refine srt_one (List.Perm.map _ (same_perm ?_ nodup_ddl fun k => ?_)) (List.pairwise_map.mpr (up.imp fun {a b} h => ?_)) (apt_ints _)
  · exact up.imp fun {a b} h => by omega
  · rw [m, mem_ddl, decide_eq_true_eq]
  · rw [leO_int, decide_eq_true_eq]; omega
theorem sset_strs {ss ys : List Str} (nd : ys.Nodup) (m : ∀ k, k ∈ ys ↔ k ∈ ss) (up : Up (ys.map D.str)) : ys.map D.str = srt (ddp (ss.map D.str)) := by
  rw [ddp_map eqb_str]
  exact srt_one (List.Perm.map _ (same_perm nd nodup_ddl fun k => by rw [m, mem_ddl])) up (apt_strs _)
abbrev toL (p : Int × Int) : List Int := [p.1, p.2]
theorem toL_inj {p q : Int × Int} (h : toL p = toL q) : p = q := by
  obtain ⟨a, b⟩ := p
  obtain ⟨c, d⟩ := q
  simp [toL] at h
  rw [h.1, h.2]
theorem sset_prs {ps qs : List (Int × Int)} (hb : ∀ p ∈ ps, 0 ≤ p.1 ∧ p.1 < 64 ∧ 0 ≤ p.2 ∧ p.2 < 64) (m : ∀ p, p ∈ qs ↔ p ∈ ps) (nd : qs.Nodup) (up : qs.Pairwise fun p q => TS.code 64 (toL p) ≤ TS.code 64 (toL q)) :
    qs.map prD = srt (ddp (ps.map prD)) := by
  rw [ddp_map eqb_pr]
  refine srt_one (List.Perm.map _ (same_perm nd nodup_ddl fun k => by rw [m, mem_ddl])) (List.pairwise_map.mpr (List.Pairwise.imp_of_mem (fun {a b} ha hc h => ?_) up)) (apt_pairs _)
  have b1 := hb a ((m a).mp ha)
  have b2 := hb b ((m b).mp hc)
  rw [code_pair, code_pair] at h
  rw [leO_pair, decide_eq_true_eq]
  omega
theorem map_toL : ∀ {L : List (Addr × List Int)}, (∀ q ∈ L, ∃ p : Int × Int, q.2 = toL p) → ∃ qs : List (Int × Int), L.map (·.2) = qs.map toL
  | [], _ => ⟨[], rfl⟩
  | q :: L, h => by
    obtain ⟨p, e⟩ := h q List.mem_cons_self
    obtain ⟨qs, e2⟩ := map_toL fun q hq => h q (List.mem_cons_of_mem _ hq)
    exact ⟨p :: qs, by rw [List.map_cons, e, e2]; rfl⟩
theorem is_refs : ∀ {L : List (Addr × List Int)} {qs : List (Int × Int)}, L.map (·.2) = qs.map toL → (∀ q ∈ L, SqT K F q.1 (q.2.map V.int)) → IsL K α F (L.map fun q => V.ref q.1) (qs.map prD)
  | [], [], _, _ => .nil
  | [], _ :: _, h, _ => by simp at h
  | _ :: _, [], h, _ => by simp at h
  | q :: L, p :: qs, h, s => by
    rw [List.map_cons, List.map_cons] at h
    obtain ⟨h1, h2⟩ := List.cons.inj h
    have e := s q List.mem_cons_self
    rw [h1] at e
    exact .cons (.tup e (.cons (.int p.1) (.cons (.int p.2) .nil))) (is_refs h2 fun q hq => s q (List.mem_cons_of_mem _ hq))
theorem sset_run {l : Addr} {us : List V} {xs : List D} {Q : VK} {E : XK} (wd : Wd K γ α F H μ) (hs : SqL K H l us) (hx : IsL K α F us xs) (q : Fin K γ α F (if setOk xs then .ok (.lst (srt (ddp xs))) μ else .bad) (okD K Q) E) :
    rSetL K P w [.ref l] H (fun y H1 => rSrtS K P w [y] H1 Q) := by
  by_cases ok : setOk xs = true
  case neg => rw [if_neg ok] at q; exact q.elim
  rw [if_pos ok] at q
  unfold setOk at ok
  cases hi : intsD xs with
  | some ns =>
    have e := intsD_is hi
    subst e
    have eu := is_ints hx
    subst eu
    rw [hi] at ok
    have c : ns.length < 64 := of_decide_eq_true ok
    refine .inl ⟨l, ns, rfl, hs, c, fun a n ha hn => .inl ⟨a, _, n, rfl, upd_same, by omega, fun ns' p up m _ hp => ?_⟩⟩
    rw [← sset_ints up m] at q
    exact fin_new (m := false) (wd.lay0 ha) hp (IsL.ints ns') q
  | none =>
    rw [hi] at ok
    cases hi2 : strsD xs with
    | some ns =>
      have e := strsD_is hi2
      subst e
      have eu := is_strs' hx
      subst eu
      rw [hi2] at ok
      have c : ns.length ≤ 1000 := of_decide_eq_true ok
      refine .inr (.inl ⟨l, ns, rfl, hs, c, fun a ha => .inr (.inl ⟨a, _, rfl, upd_same, c, fun ys p nd m up hp => ?_⟩)⟩)
      rw [← sset_strs nd m up] at q
      exact fin_new (m := false) (wd.lay0 ha) hp (is_strs ys) q
    | none =>
      rw [hi2] at ok
      cases hi3 : prsD xs with
      | none => rw [hi3] at ok; cases ok
      | some ps =>
          have e := prsD_is hi3
          subst e
          rw [hi3] at ok
          have c : (decide (ps.length < 64) && ps.all fun p => decide (0 ≤ p.1 ∧ p.1 < 64 ∧ 0 ≤ p.2 ∧ p.2 < 64)) = true := ok
          rw [Bool.and_eq_true, decide_eq_true_eq, List.all_eq_true] at c
          obtain ⟨c1, c2⟩ := c
          have hb : ∀ p ∈ ps, 0 ≤ p.1 ∧ p.1 < 64 ∧ 0 ≤ p.2 ∧ p.2 < 64 := fun p hp => by simpa using c2 p hp
          obtain ⟨ks, rfl, ek, sk⟩ := is_prs hx
          have len : ks.length = ps.length := by simpa using congrArg List.length ek
          have two : ∀ k ∈ ks, ∃ p ∈ ps, k.2 = toL p := fun k hk => by
            have hm : k.2 ∈ ps.map (fun p => [p.1, p.2]) := by rw [← ek]; exact List.mem_map.mpr ⟨k, hk, rfl⟩
            obtain ⟨p, hp, e⟩ := List.mem_map.mp hm
            exact ⟨p, hp, e.symm⟩
          refine .inr (.inr ⟨l, ks, rfl, hs, fun p hp => sqt_mono wd.sub (sk p hp), by omega, fun a L ha hL hA => .inr (.inr ⟨a, L, 2, 64, rfl, upd_same, fun p hp => ?_, by decide, fun p hp => ?_, fun L' p pm nd h64 pw hp => ?_⟩)⟩)
          · exact sqt_mono (same_upd wd.sub (wd.sub.free ha)) (sk p (hL p hp))
          · obtain ⟨r, hr, e⟩ := two p (hL p hp)
            have b := hb r hr
            rw [e]
            refine ⟨rfl, fun m hm => ?_⟩
            rcases List.mem_cons.mp hm with rfl | hm
            · exact ⟨b.1, b.2.1⟩
            · rw [List.mem_singleton] at hm
              subst hm
              exact b.2.2
          · obtain ⟨qs, eq⟩ := map_toL fun z hz => (two z (hL z (pm.mem_iff.mp hz))).imp fun p h => h.2
            have nd' : qs.Nodup := by
              rw [eq] at nd
              exact (List.pairwise_map.mp nd).imp fun h e => h (by rw [e])
            have mem : ∀ r, r ∈ qs ↔ r ∈ ps := fun r => by
              constructor
              · intro hr
                have : toL r ∈ L'.map (·.2) := by rw [eq]; exact List.mem_map.mpr ⟨r, hr, rfl⟩
                obtain ⟨z, hz, ez⟩ := List.mem_map.mp this
                obtain ⟨r', hr', e'⟩ := two z (hL z (pm.mem_iff.mp hz))
                rw [toL_inj (ez.symm.trans e')]
                exact hr'
              · intro hr
                have : toL r ∈ ks.map (·.2) := by rw [ek]; exact List.mem_map.mpr ⟨r, hr, rfl⟩
                obtain ⟨z, hz, ez⟩ := List.mem_map.mp this
                have h1 := hA z hz
                have h2 : toL r ∈ L'.map (·.2) := by
                  rw [← ez]
                  exact (pm.map (·.2)).mem_iff.mpr h1
                rw [eq] at h2
                obtain ⟨r', hr', e'⟩ := List.mem_map.mp h2
                rw [← toL_inj e']
                exact hr'
            have up : qs.Pairwise fun p q => TS.code 64 (toL p) ≤ TS.code 64 (toL q) := by
              have h1 : (L'.map (·.2)).Pairwise fun p q => TS.code 64 p ≤ TS.code 64 q := List.pairwise_map.mpr pw
              rw [eq] at h1
              have h2 := (List.pairwise_map (R := fun p q => TS.code 64 p ≤ TS.code 64 q) (f := toL)).mp h1
              exact h2
            rw [← sset_prs hb mem nd' up] at q
            exact fin_new (m := false) (wd.lay0 ha) hp (is_refs eq fun z hz => sk z (hL z (pm.mem_iff.mp hz))) q
end
section
variable {X : Cx} {W : WX} {e : Expr} {f : RE} {pos p p2 pos2 : Pos} {k : Nat}
theorem tD_ss {P : Program} {w : World} {K : PySem.W.Frag} (σ : St) (H : Hp) (Q : VK) : tD K W (rSS f) σ H Q → tCB (rSrtS K P w) (tCons (tCB (rSetL K P w) (tCons (tD K W f) tNil)) tNil) σ H Q := fun ⟨γ, α, F, μ, δ, wd, s, q⟩ =>
  tD_go wd s q fun d μ1 α1 F1 H1 v p1 e1 w1 s1 hv q1 => by
    have vw := w1.view hv
    cases hd : d.view μ1 with
    | lst xs =>
      rw [hd] at q1 vw
      obtain ⟨a, us, rfl, ha, l⟩ := vw
      exact sset_run w1 (.inl (.inl ha)) l q1
    | frl xs =>
      rw [hd] at q1 vw
      obtain ⟨a, us, rfl, ha, l⟩ := vw
      exact sset_run w1 ha l q1
    | _ => rw [hd] at q1; exact q1.elim
theorem pd_ss (g : Good X W k) (hm : X.mg "sorted" = none) (hm2 : X.mg "set" = none) (ha : PD X W e f) (hg : Gl X "sorted" := by rfl) (hg2 : Gl X "set" := by rfl) (he2 : starEach [e] X.env = (false, eval e X.env) :: starEach [] X.env := by rfl)
    (he : starEach [.Call (.Name "set" p2) [e] [] pos2] X.env = (false, eval (.Call (.Name "set" p2) [e] [] pos2) X.env) :: starEach [] X.env := by rfl) :
    PD X W (.Call (.Name "sorted" p) [.Call (.Name "set" p2) [e] [] pos2] [] pos) (rSS f) :=
  pe_weak (pe_callB (cr_srtS g.calm (by have := g.hu; omega)) hg hm PyProof.Rows.boot_sorted (pa_cons (pe_callTy (cr_setL g.calm (by have := g.hu; omega)) hg2 hm2 PyProof.Rows.boot_set (pa_cons ha pa_nil he2) (by decide) (by decide) he2 rfl) pa_nil he) (by decide) (by decide) he rfl) tD_ss
end
end DL

/-! The data layer, N8: enumerate of lists and tuples. -/
namespace DL
open PySem L2 PySem.Spec PyProof.Rows
open AutoSeq1 (wpAny_loadPart')
abbrev tupIt (l : Addr) : Obj := { cls := .type "tuple_iterator", data := .fields #[.ref l, .int 0 0] }
abbrev enumOf (it : Addr) : Obj := { cls := .type "enumerate", data := .fields #[.none, .bool false, .ref it, rawInt 0, .none, .none] }
theorem enum_newT (l : Addr) (items : Array Value) (n : Nat) (dd : Option Addr) (sl : Array (Option Value)) :
    Meets (Builtin.«enumerate.__new__» ⟨[.type "enumerate", .ref l], []⟩) (fun _ R s => s.heap.get? l = some { cls := .type "tuple", dict := dd, data := .seq items n, slots := sl } ∧
      R (.ok (.ret (.ref (s.heap.push (tupIt l)).objs.size))) { s with heap := (s.heap.push (tupIt l)).push (enumOf s.heap.objs.size) }) :=
  .of_wp fun prog w A R s h => by
    obtain ⟨hp, g, d, tk, os⟩ := s
    obtain ⟨at0, fin⟩ := h
    have sub := sub_enumerate
    have tu : Heap.IsTuple (Shared.heap ⟨hp, g, d, tk, os⟩) l items := ⟨_, at0, rfl, n, rfl⟩
    wp_walk using wpAny_loadPart' at0
    refine wpAny_stack_any fun _ => wpAny_pure ?_
    split
    · rename_i c _ _ _ _ _
      cases (c == Value.type "enumerate")
      all_goals
        wp_walk using wpAny_loadPart' at0, wpAny_pyIter_tuple tu
        exact ⟨_, rfl, fin⟩
    · wp_walk using wpAny_loadPart' at0, wpAny_pyIter_tuple tu
      exact ⟨_, rfl, fin⟩
theorem call_enumT {prog : Program} {w : World} {A : Around} {E : Value → Shared → Prop} {s : Shared} {l : Addr} {items : Array Value} {Q : Value → Shared → Prop} (hl : s.heap.IsTuple l items)
    (h : ∀ h', IsEnum h' (s.heap.objs.size + 1) s.heap.objs.size 0 .none → h'.IsTupleIter s.heap.objs.size l 0 → (∀ b o, s.heap.get? b = some o → h'.get? b = some o) → Q (.ref (s.heap.objs.size + 1)) { s with heap := h' }) :
    wpAny (model prog w) A (call (.type "enumerate") [.ref l]) Q E s := by
  obtain ⟨⟨c, dd, dt, sl⟩, ol, hc, n, hd⟩ := hl
  simp only at hc hd
  subst hc hd
  refine callType_new F.called_enumerate (by decide) (F.typeCall_enumerate_1 _) (F.newCall_enumerate_1 _) (fun ob => F.args_object_init_2 ob _) F.entry_enumerate_new (enum_newT l items n dd sl) ⟨ol, ?_⟩
  have sz : (s.heap.push (tupIt l)).objs.size = s.heap.objs.size + 1 := Heap.size_push ..
  show _ ∧ _
  rw [sz]
  have at1 : IsEnum ((s.heap.push (tupIt l)).push (enumOf s.heap.objs.size)) (s.heap.objs.size + 1) s.heap.objs.size 0 .none := by
    have q := Heap.get?_push_size (s.heap.push (tupIt l)) (o := enumOf s.heap.objs.size) rfl
    rw [sz] at q
    exact q
  exact ⟨⟨_, at1, rfl⟩, h _ at1 ⟨_, Heap.get?_push_of_some _ (Heap.get?_push_size _ rfl), rfl, rfl⟩ fun b o e => Heap.get?_push_of_some _ (Heap.get?_push_of_some _ e)⟩
/-- the tuple at a as it stands at each turn, each item in a new pair -/
def IteT (K : PySem.W.Frag) (a : Addr) : It :=
  ⟨fun i H => ∃ (xs : List V) (x : V), SqT K H a xs ∧ xs[i]? = some x, fun i H v H' => ∃ T x, v = .ref T ∧ H T = none ∧ H' = upd H T (.tup [.int (i : Nat), x]) ∧ ∀ xs, SqT K H a xs → xs[i]? = some x, fun i H => ∃ xs : List V, SqT K H a xs ∧ xs.length = i⟩
theorem turn_enumT {P : Program} {w : World} {K : PySem.W.Frag} {elts : List Expr} {kk : Nat} {tpos : Pos} (a e it : Addr) :
    Turn P w K (.Tuple elts kk tpos) (IteT K a) [e, it] e (fun i h => (∃ old, IsEnum h e it ((i : Nat) : Int) old) ∧ h.IsTupleIter it a i ∧ e ≠ it) where
  mem := List.mem_cons_self
  obj := fun i h ⟨⟨old, at0⟩, ⟨o, at1, hc, hd⟩, _⟩ b hb => by
    rcases List.mem_cons.mp hb with z | z
    · rw [z]; exact ⟨_, at0, fun v q => nomatch q⟩
    · rw [List.mem_singleton.mp z]; exact ⟨o, at1, fun v q => by rw [hd] at q; cases q⟩
  keep := fun i h h' ⟨⟨old, at0⟩, hi, ne⟩ k => ⟨⟨old, k e List.mem_cons_self _ at0⟩, hi.at fun o q => k it (by simp) o q, ne⟩
  item := by
    intro X hP hw hK hc i pins s σ H E I hf st hg
    subst hP hw hK
    obtain ⟨⟨old, at0⟩, hit, ne⟩ := st
    obtain ⟨xs, x, hq, hx⟩ := hg
    obtain ⟨its, rv, p, hz⟩ := I.tuple hq
    obtain ⟨u, hu, ru⟩ := rv.get hx
    have le : e < s.heap.objs.size := Heap.lt_size at0
    have li : it < s.heap.objs.size := by obtain ⟨_, q, _⟩ := hit; exact Heap.lt_size q
    have n1 : a ≠ it := by
      rintro rfl
      obtain ⟨o, q, c, _⟩ := hit
      obtain ⟨o2, q2, c2, _⟩ := p
      rw [q] at q2
      cases q2
      rw [c] at c2
      exact absurd c2 (by decide)
    have n2 : e ≠ a := by
      rintro rfl
      obtain ⟨o2, q2, c2, _⟩ := p
      rw [at0] at q2
      cases q2
      have c3 : Value.type "enumerate" = Value.type "tuple" := c2
      exact absurd c3 (by decide)
    have lt : i < its.toArray.size := by
      rw [List.size_toArray]
      exact (List.getElem?_eq_some_iff.mp hu).1
    refine wpAny_pyNext_enum_itemD (Draws.tuple (A := X.A.in1) (I.ok.hd hc) it a n1 its.toArray) at0 ⟨hit, p⟩ lt ne (by simp [ne, n2]) fun y h' tk hy ho hs hT hsz hk => ?_
    have ey : y = u := by
      have q : its[i]? = some y := by simpa using hy
      rw [hu] at q
      exact (Option.some.inj q).symm
    subst ey
    refine ⟨_, rfl, wpAny_letOwnedTupleGo_enum (s := { s with heap := h', toks := tk + 1 }) ho fun h2 he2 sb => ?_⟩
    have at2 : h2.get? s.heap.objs.size = some { cls := .type "tuple", data := .seq #[.int i tk, y] } := (sb.2 _ (Nat.ne_of_gt le)).trans hT
    have new : ObjOk X.prog X.w (upd H s.heap.objs.size (.tup [.int (i : Nat), x])) h2 s.heap.objs.size (.tup [.int (i : Nat), x]) :=
      ⟨by show 2 ≤ sizeLine; decide, [.int i tk, y], .cons ⟨_, rfl⟩ (.cons ru .nil), ⟨_, at2, rfl, _, rfl⟩⟩
    have I1 : Inv X pins σ (upd H s.heap.objs.size (.tup [.int (i : Nat), x])) { s with heap := h2, toks := tk + 1 } :=
      I.turnedNew (ch := [e, it]) (fun b ob hb q => (sb.2 b fun z => hb (by simp [z])).trans (hk b ob (fun z => hb (by simp [z])) (fun z => hb (by simp [z])) q)) hf (Nat.le_refl _) new
    refine ⟨.ref s.heap.objs.size, _, I1, rfl, ⟨_, x, rfl, I.hok.fresh (Nat.le_refl _), rfl, fun zs hy => by rw [I.tuple_inj hy hq]; exact hx⟩, ⟨⟨y, ?_⟩, hs.1.at fun o q => (sb.2 it (Ne.symm ne)).trans q, ne⟩, fun b hb => ?_⟩
    · have e1 : ((i + 1 : Nat) : Int) = (i : Int) + 1 := by omega
      rw [e1]; exact he2
    · have lb : b < s.heap.objs.size := by
        rcases List.mem_cons.mp hb with z | z
        · rw [z]; exact le
        · rw [List.mem_singleton.mp z]; exact li
      rw [upd_ne (Nat.ne_of_lt lb)]
      exact (hf b hb).1
  done := by
    intro X hP hw hK hc i pins s σ H E I hf st hg
    subst hP hw hK
    obtain ⟨⟨old, at0⟩, hit, ne⟩ := st
    obtain ⟨xs, hq, hx⟩ := hg
    obtain ⟨its, rv, p, hz⟩ := I.tuple hq
    obtain ⟨f0, f1, f2, f3, f4, f5⟩ := hf it (by simp)
    have n1 : a ≠ it := by
      rintro rfl
      obtain ⟨o, q, c, _⟩ := hit
      obtain ⟨o2, q2, c2, _⟩ := p
      rw [q] at q2
      cases q2
      rw [c] at c2
      exact absurd c2 (by decide)
    have sz : its.toArray.size = i := by rw [List.size_toArray, ← rv.length, hx]
    refine wpAny_pyNext_enum_endD (Draws.tuple (A := X.A.in1) (I.ok.hd hc) it a n1 its.toArray) at0 (by rw [sz]; exact ⟨hit, p⟩) fun h' eb => ⟨rfl, I.turned (t' := s.toks) (fun b o hb q => eb b o hb q) f0 f1 f3 f4 f5⟩
  self := fun A i s Q E st h => let ⟨⟨_, at0⟩, _⟩ := st; wpAny_pyIter_enum at0 h

def iEnumT (K : PySem.W.Frag) (ta : TA) : TI := fun σ H R => ta σ H fun vs H1 => ∃ a xs, vs = [.ref a] ∧ ((SqL K H1 a xs ∧ R (Ite K a) H1) ∨ (SqT K H1 a xs ∧ R (IteT K a) H1))
theorem pi_enumT {X : Cx} {e : Expr} {ta : TA} {p pos tpos : Pos} {elts : List Expr} {kk : Nat} (hg : Gl X "enumerate") (hm : X.mg "enumerate" = none) (ha : PA X [e] ta) (hs : starEach [e] X.env = [(false, eval e X.env)] := by rfl) :
    PI X (.Tuple elts kk tpos) (.Call (.Name "enumerate" p) [e] [] pos) (iEnumT X.K ta) := by
  refine ⟨fun pins s σ H R I h => ?_⟩
  refine Call_ (ld_blt I hg hm boot_enumerate (PyProof.Rows.callWith_type1 (thn (ha.run pos pins s σ H _ I h) fun us s1 ⟨vs, H1, I1, r1, a, xs, ex, q⟩ => ?_) hs rfl))
  subst ex
  have ru := Vals.ref1 r1
  obtain ⟨u, rfl, ru'⟩ := vals1 r1
  cases ru'
  have fpok : ∀ b ∈ [s1.heap.objs.size + 1, s1.heap.objs.size], FpOk X pins H1 b := fun b hb => by
    have le : s1.heap.objs.size ≤ b := by
      rcases List.mem_cons.mp hb with z | z
      · rw [z]; exact Nat.le_add_right _ _
      · rw [List.mem_singleton.mp z]; exact Nat.le_refl _
    exact I1.fpOk le (I1.hok.fresh le)
  rcases q with ⟨hq, q⟩ | ⟨hq, q⟩
  · obtain ⟨its, rv, p', hz⟩ := I1.list hq
    exact call_enumerate_list p'.isList fun h' he hit hsz hk => wpAny_pyIter_enum he ⟨s1.heap.objs.size + 1, [s1.heap.objs.size + 1, s1.heap.objs.size], _, _, H1, rfl, I1.kept (t' := s1.toks) hk, turn_enum a (s1.heap.objs.size + 1) s1.heap.objs.size, ⟨⟨.none, he⟩, hit, Nat.succ_ne_self _⟩, fpok, q⟩
  · obtain ⟨its, rv, p', hz⟩ := I1.tuple hq
    exact call_enumT p' fun h' he hit hk => wpAny_pyIter_enum he ⟨s1.heap.objs.size + 1, [s1.heap.objs.size + 1, s1.heap.objs.size], _, _, H1, rfl, I1.kept (t' := s1.toks) hk, turn_enumT a (s1.heap.objs.size + 1) s1.heap.objs.size, ⟨⟨.none, he⟩, hit, Nat.succ_ne_self _⟩, fpok, q⟩
end DL

/-! The data layer, N9: enumerate; list * int; is not; constants that are texts. -/
namespace DL
open PySem L2
/-- numbered items -/
def enumL : Nat → List D → List D
  | _, [] => []
  | n, x :: r => .tup [.int (n : Nat), x] :: enumL (n + 1) r
theorem enumL_len : ∀ {n : Nat} {xs : List D}, (enumL n xs).length = xs.length
  | _, [] => rfl
  | n, x :: r => by simp [enumL, enumL_len (n := n + 1) (xs := r)]
theorem enumL_get : ∀ {n i : Nat} {xs : List D} {d : D}, (enumL n xs)[i]? = some d → ∃ x, xs[i]? = some x ∧ d = .tup [.int ((n + i : Nat) : Int), x]
  | _, _, [], _, h => by simp [enumL] at h
  | n, 0, x :: r, d, h => by
    simp [enumL] at h
    exact ⟨x, rfl, by rw [← h]; simp⟩
  | n, i + 1, x :: r, d, h => by
    simp only [enumL, List.getElem?_cons_succ] at h
    obtain ⟨y, h1, h2⟩ := enumL_get h
    exact ⟨y, by simpa using h1, by rw [h2]; congr 3; omega⟩
def rEnum (fs : RA) : RA := fun δ μ => (fs δ μ).bind fun ds μ1 => match ds with
  | [.lst xs] => .ok (enumL 0 xs) μ1
  | [.frl xs] => .ok (enumL 0 xs) μ1
  | [.tup xs] => .ok (enumL 0 xs) μ1
  | _ => .bad
section
variable {K : PySem.W.Frag} {γ : Hp} {α : List Addr} {F H : Hp} {μ : List Ob}
theorem walk_enumL {a : Addr} {vs : List V} {ds : List D} (h : SqL K F a vs) (l : IsL K α F vs ds) : WalkD K α F (Ite K a) (enumL 0 ds) := fun i γ α' F' H μ p e w => by
  have h' : SqL K H a vs := w.sub.seq (e.seq h)
  refine ⟨fun d hd => ?_, fun hi => ⟨vs, h', by rw [enumL_len] at hi; rw [l.length, hi]; exact Nat.le_refl _⟩⟩
  obtain ⟨x, hx, rfl⟩ := enumL_get hd
  obtain ⟨v, hv, hvd⟩ := l.get hx
  refine ⟨⟨vs, v, h', hv⟩, fun y H' ⟨T, z, e1, hT, e2, g⟩ => ?_⟩
  subst e1 e2
  have q := g vs h'
  rw [hv] at q
  cases q
  have fT := w.sub.free hT
  refine ⟨_, same_new fT, w.lay hT, .tup (.inl (.inl upd_same)) (.cons ?_ (.cons (hvd.mono p (e.trans (same_new fT))) .nil))⟩
  have ez : ((0 + i : Nat) : Int) = (i : Nat) := by simp
  rw [ez]
  exact .int _
theorem walk_enumT {a : Addr} {vs : List V} {ds : List D} (h : SqT K F a vs) (l : IsL K α F vs ds) : WalkD K α F (IteT K a) (enumL 0 ds) := fun i γ α' F' H μ p e w => by
  have h' : SqT K H a vs := sqt_mono w.sub (sqt_mono e h)
  refine ⟨fun d hd => ?_, fun hi => ⟨vs, h', by rw [enumL_len] at hi; rw [l.length, hi]⟩⟩
  obtain ⟨x, hx, rfl⟩ := enumL_get hd
  obtain ⟨v, hv, hvd⟩ := l.get hx
  refine ⟨⟨vs, v, h', hv⟩, fun y H' ⟨T, z, e1, hT, e2, g⟩ => ?_⟩
  subst e1 e2
  have q := g vs h'
  rw [hv] at q
  cases q
  have fT := w.sub.free hT
  refine ⟨_, same_new fT, w.lay hT, .tup (.inl (.inl upd_same)) (.cons ?_ (.cons (hvd.mono p (e.trans (same_new fT))) .nil))⟩
  have ez : ((0 + i : Nat) : Int) = (i : Nat) := by simp
  rw [ez]
  exact .int _
end
section
variable {X : Cx} {W : WX}
theorem pdi_enum {e : Expr} {fs : RA} {p pos tpos : Pos} {elts : List Expr} {kk : Nat} (hg : Gl X "enumerate") (hm : X.mg "enumerate" = none) (ha : PDA X W [e] fs) (hs : starEach [e] X.env = [(false, eval e X.env)] := by rfl) :
    PDI X W (.Tuple elts kk tpos) (.Call (.Name "enumerate" p) [e] [] pos) (rEnum fs) :=
  pi_weak (pi_enumT hg hm ha hs) fun σ H Rw ⟨γ, α, F, μ, δ, w, s, q⟩ => tDA_go w s q fun ds μ1 α1 F1 H1 vs p1 e1 w1 s1 hx q1 => by
    have fin : ∀ {J : It} {xs : List D}, WalkD X.K α1 F1 J xs → Fin X.K γ α1 F1 (R.ok xs μ1) (fun ds _ α' F' H' => ∀ J, WalkD X.K α' F' J ds → Rw J H') (fun c dd H' => W c dd σ H') → Rw J H1 := fun h q => q α1 F1 H1 (List.prefix_refl _) (Same.refl F1) w1 _ h
    split at q1
    · obtain ⟨v, rfl, h⟩ := hx.one
      cases h with
      | lst h l => exact ⟨_, _, rfl, .inl ⟨.inl (.inl (w1.sub _ _ h)), fin (walk_enumL (.inl (.inl h)) l) q1⟩⟩
    · obtain ⟨v, rfl, h⟩ := hx.one
      cases h with
      | frl h l => exact ⟨_, _, rfl, .inl ⟨w1.sub.seq h, fin (walk_enumL h l) q1⟩⟩
    · obtain ⟨v, rfl, h⟩ := hx.one
      cases h with
      | tup h l => exact ⟨_, _, rfl, .inr ⟨sqt_mono w1.sub h, fin (walk_enumT h l) q1⟩⟩
    · exact q1.elim

/-! ### is not None -/
variable {a b : Expr} {fa fb : RE} {pos : Pos}
theorem pdt_isnot (ha : PD X W a fa) (hb : PD X W b fb) (hm : behindInMarks .IsNot b = false := by rfl) : PDT X W (.Compare a [.IsNot] [b] pos) (rT (rBin isNotN fa fb)) := pdt_cmp op_notN op2_notN hm ha hb
theorem pd_isnot (ha : PD X W a fa) (hb : PD X W b fb) (hm : behindInMarks .IsNot b = false := by rfl) : PD X W (.Compare a [.IsNot] [b] pos) (rBin isNotN fa fb) := pd_cmp op_notN op2_notN hm ha hb
theorem pd_is' (ha : PD X W a fa) (hb : PD X W b fb) (hm : behindInMarks .Is b = false := by rfl) : PD X W (.Compare a [.Is] [b] pos) (rBin isN fa fb) := pd_cmp op_isN op2_isN hm ha hb

/-! ### a text of the module -/
theorem pd_gstr {x : Str} {z : Str} (hg : Gl X x) (h : ∃ t, X.mg x = some (.str z t)) (hd : (x == ("__debug__" : Str)) = false := by decide) : PD X W (.Name x pos) (rC (.str z)) := by
  obtain ⟨t, hm⟩ := h
  exact pd_glob (v := .str z) hg hm ⟨t, rfl⟩ (fun _ _ => .str z) hd
end

/-! ### list + list, kept as an object; list * int -/
def addM (d e : D) (μ : List Ob) : R D := match d.view μ, e.view μ with
  | .lst xs, .lst ys => if xs.length + ys.length ≤ 16777216 then .ok (.loc μ.length) (μ ++ [.lst (xs ++ ys)]) else .bad
  | _, _ => .bad
def mulL (d e : D) (μ : List Ob) : R D := match d.view μ, e with
  | .lst xs, .int k => if 0 ≤ k ∧ k < 1000 ∧ xs.length * k.toNat ≤ 16777216 then .ok (.lst (List.replicate k.toNat xs).flatten) μ else .bad
  | _, _ => .bad
section
variable {K : PySem.W.Frag} {γ : Hp} {α : List Addr} {F H : Hp} {μ : List Ob}
theorem op2_addM : Op2 K (rAddA K) addM := fun γ α F H μ x y d e Q E w hx hy q => by
  unfold addM at q
  have vx := w.view hx
  have vy := w.view hy
  split at q
  · rename_i xs ys hd he
    rw [hd] at vx
    rw [he] at vy
    obtain ⟨a, vs, rfl, h1, h2⟩ := vx
    obtain ⟨b, ws, rfl, h3, h4⟩ := vy
    by_cases hz : xs.length + ys.length ≤ 16777216
    · rw [if_pos hz] at q
      exact .inr (.inr (.inl ⟨a, b, vs, ws, rfl, rfl, h1, h3, by rw [h2.length, h4.length, sizeLine_eq]; exact hz, fun p hp => fin_new (m := true) w hp (h2.append h4) q⟩))
    · rw [if_neg hz] at q; exact q.elim
  · exact q.elim
theorem rep_is {vs : List V} {ds : List D} (l : IsL K α F vs ds) : ∀ n : Nat, IsL K α F (List.replicate n vs).flatten (List.replicate n ds).flatten
  | 0 => .nil
  | n + 1 => by
    rw [List.replicate_succ, List.replicate_succ, List.flatten_cons, List.flatten_cons]
    exact l.append (rep_is l n)
theorem op2_mulL : Op2 K rRep mulL := fun γ α F H μ x y d e Q E w hx hy q => by
  unfold mulL at q
  have vx := w.view hx
  split at q
  · rename_i xs k hd
    rw [hd] at vx
    obtain ⟨a, vs, rfl, h1, h2⟩ := vx
    cases hy
    by_cases hz : 0 ≤ k ∧ k < 1000 ∧ xs.length * k.toNat ≤ 16777216
    · rw [if_pos hz] at q
      obtain ⟨z1, z2, z3⟩ := hz
      exact ⟨a, k, vs, rfl, rfl, h1, by omega, by omega, by rw [h2.length, sizeLine_eq]; exact z3, fun p hp => fin_new (m := false) w hp (rep_is h2 _) q⟩
    · rw [if_neg hz] at q; exact q.elim
  · exact q.elim
end
section
variable {X : Cx} {W : WX} {a b : Expr} {fa fb : RE} {pos : Pos}
theorem pd_addM (ha : PD X W a fa) (hb : PD X W b fb) : PD X W (.BinOp a .Add b pos) (rBin addM fa fb) := pd_bin op_addA op2_addM ha hb
theorem pd_mulL (ha : PD X W a fa) (hb : PD X W b fb) : PD X W (.BinOp a .Mult b pos) (rBin mulL fa fb) := pd_bin op_rep op2_mulL ha hb
end
end DL

/-! The data layer, N11: comprehensions with two fors. -/
namespace DL
open PySem L2
def comp2 (t : Tg) (vs : List Nat) (ft : RT) (fi1 : RA) (t1 : Tg) (vs1 : List Nat) (ft1 : RT) (fe : RE) : List D → Sl → List Ob → List D → R (List D)
  | [], _, μ, acc => .ok acc μ
  | x :: xs, δ, μ, acc => match t.set x (wipeD δ vs) with
    | none => .bad
    | some δ1 => match ft δ1 μ with
      | .ok true μ1 => match fi1 δ1 μ1 with
        | .ok ds1 μ2 => (compL t1 vs1 ft1 fe ds1 δ1 μ2 acc).bind fun acc' μ3 => comp2 t vs ft fi1 t1 vs1 ft1 fe xs δ μ3 acc'
        | _ => .bad
      | .ok false μ1 => comp2 t vs ft fi1 t1 vs1 ft1 fe xs δ μ1 acc
      | _ => .bad
def rLc2 (fi : RA) (t : Tg) (vs : List Nat) (ft : RT) (fi1 : RA) (t1 : Tg) (vs1 : List Nat) (ft1 : RT) (fe : RE) : RE := fun δ μ => (fi δ μ).bind fun ds μ1 => (comp2 t vs ft fi1 t1 vs1 ft1 fe ds δ μ1 []).bind fun ys μ2 => .ok (.lst ys) μ2
section
variable {K : PySem.W.Frag} {W : WX}
theorem tD_lc2 {fi fi1 : RA} {t t1 : Tg} {vs vs1 : List Nat} {ft ft1 : RT} {fe : RE} (hv : ∀ i ∈ t.slots, i ∈ vs) (hv1 : ∀ i ∈ t1.slots, i ∈ vs1) (σ : St) (H : Hp) (Q : VK) (h : tD K W (rLc2 fi t vs ft fi1 t1 vs1 ft1 fe) σ H Q) :
    tLc2 (tDI K W fi) (t.rd K) (tDT K W0 ft) (tDI K W0 fi1) (t1.rd K) (tDT K W0 ft1) (tD K W0 fe) vs vs1 σ H Q := by
  obtain ⟨γ, α, F, μ, δ, w, s, q⟩ := h
  refine ⟨γ, α, F, μ, δ, w, s, ?_⟩
  unfold rLc2 at q
  cases hf : fi δ μ with
  | bad => rw [hf] at q; exact q
  | exc x μ1 => rw [hf] at q; exact q
  | ok ds μ1 =>
    rw [hf] at q
    intro α1 F1 H1 p1 e1 w1 J hJ Dl hD
    have q1 := Fin.up p1 e1 q
    have s1 := s.mono p1 e1
    rw [R.ok_bind] at q1
    have gD : γ Dl = none := w1.gs.free hD
    refine ⟨fun i m H => m = ds.length - i ∧ i ≤ ds.length ∧ ∃ α' F' μ' acc ys, Wd K (upd γ Dl (.lst ys)) α' F' H μ' ∧ SlIs K α' F' σ δ ∧ WalkD K α' F' J ds ∧ IsL K α' F' ys acc ∧
        Fin K γ α' F' ((comp2 t vs ft fi1 t1 vs1 ft1 fe (ds.drop i) δ μ' acc).bind fun ys μ2 => .ok (.lst ys) μ2) (okD K Q) (fun c dd H' => W c dd σ H'),
      ⟨ds.length, by simp, Nat.zero_le _, α1, F1, μ1, [], [], w1.gnew hD, s1, hJ, .nil, by rw [List.drop_zero]; exact q1⟩, ?_⟩
    rintro i m H2 ⟨rfl, hi, α2, F2, μ2, acc, ys, w2, s2, hJ2, hl, q2⟩
    obtain ⟨j1, j2⟩ := hJ2 i _ α2 F2 H2 μ2 (List.prefix_refl _) (Same.refl F2) w2
    by_cases hlt : i < ds.length
    · obtain ⟨hgo, hy⟩ := j1 ds[i] (List.getElem?_eq_getElem hlt)
      rw [List.drop_eq_getElem_cons hlt] at q2
      unfold comp2 at q2
      right
      refine ⟨hgo, fun H' => i + 1 ≤ ds.length ∧ ∃ α' F' μ' acc ys, Wd K (upd γ Dl (.lst ys)) α' F' H' μ' ∧ SlIs K α' F' σ δ ∧ WalkD K α' F' J ds ∧ IsL K α' F' ys acc ∧
          Fin K γ α' F' ((comp2 t vs ft fi1 t1 vs1 ft1 fe (ds.drop (i + 1)) δ μ' acc).bind fun ys μ2 => .ok (.lst ys) μ2) (okD K Q) (fun c dd H' => W c dd σ H'),
        fun H' n => ⟨ds.length - (i + 1), by omega, rfl, n.1, n.2⟩, fun x H3 y => ?_⟩
      obtain ⟨F3, e3, w3, hx⟩ := hy x H3 y
      have q3 := Fin.up (List.prefix_refl _) e3 q2
      have s3 := s2.mono (List.prefix_refl _) e3
      cases ht : t.set ds[i] (wipeD δ vs) with
      | none => rw [ht] at q3; exact q3.elim
      | some δ3 =>
        rw [ht] at q3
        refine Tg.go w3 (s3.wipe vs) hx ht fun σ4 s4 hw4 _ => ⟨?_, ?_⟩
        · rw [hw4 vs hv]
          exact wipe_wipe σ vs
        · refine ⟨_, α2, F3, μ2, δ3, w3, s4, ?_⟩
          dsimp only at q3
          cases hft : ft δ3 μ2 with
          | bad => rw [hft] at q3; exact q3.elim
          | exc x μ4 => rw [hft] at q3; exact q3.elim
          | ok b μ4 =>
            rw [hft] at q3
            intro α4 F4 H4 p4 e4 w4
            have q4 := Fin.up p4 e4 q3
            cases b with
            | false =>
              exact iteF ⟨hlt, α4, F4, μ4, acc, ys, w4, s3.mono p4 e4, hJ2.mono p4 (e3.trans e4), hl.mono p4 (e3.trans e4), q4⟩
            | true =>
              refine iteT ⟨_, α4, F4, μ4, δ3, w4, s4.mono p4 e4, ?_⟩
              dsimp only at q4
              cases hfi : fi1 δ3 μ4 with
              | bad => rw [hfi] at q4; exact q4.elim
              | exc x μ5 => rw [hfi] at q4; exact q4.elim
              | ok ds1 μ5 =>
                rw [hfi] at q4
                intro α5 F5 H5 p5 e5 w5 J1 hJ1
                have q5 := Fin.up p5 e5 q4
                dsimp only at q5
                refine ⟨fun j k H => k = ds1.length - j ∧ j ≤ ds1.length ∧ ∃ α' F' μ' acc ys, Wd K (upd γ Dl (.lst ys)) α' F' H μ' ∧ SlIs K α' F' σ4 δ3 ∧ SlIs K α' F' σ δ ∧ WalkD K α' F' J ds ∧ WalkD K α' F' J1 ds1 ∧ IsL K α' F' ys acc ∧
                    Fin K γ α' F' (((compL t1 vs1 ft1 fe (ds1.drop j) δ3 μ' acc).bind fun acc' μ3 => comp2 t vs ft fi1 t1 vs1 ft1 fe (ds.drop (i + 1)) δ μ3 acc').bind fun ys μ2 => .ok (.lst ys) μ2) (okD K Q) (fun c dd H' => W c dd σ H'),
                  ⟨ds1.length, by simp, Nat.zero_le _, α5, F5, μ5, acc, ys, w5, (s4.mono p4 e4).mono p5 e5, (s3.mono p4 e4).mono p5 e5, hJ2.mono (p4.trans p5) ((e3.trans e4).trans e5), hJ1, hl.mono (p4.trans p5) ((e3.trans e4).trans e5), by rw [List.drop_zero]; exact q5⟩, ?_⟩
                rintro j k H6 ⟨rfl, hj, α6, F6, μ6, acc6, ys6, w6, s6, t6, hJ6, hK6, hl6, q6⟩
                obtain ⟨k1, k2⟩ := hK6 j _ α6 F6 H6 μ6 (List.prefix_refl _) (Same.refl F6) w6
                by_cases hlt1 : j < ds1.length
                · obtain ⟨hgo1, hy1⟩ := k1 ds1[j] (List.getElem?_eq_getElem hlt1)
                  rw [List.drop_eq_getElem_cons hlt1] at q6
                  unfold compL at q6
                  right
                  refine ⟨hgo1, fun H' => j + 1 ≤ ds1.length ∧ ∃ α' F' μ' acc ys, Wd K (upd γ Dl (.lst ys)) α' F' H' μ' ∧ SlIs K α' F' σ4 δ3 ∧ SlIs K α' F' σ δ ∧ WalkD K α' F' J ds ∧ WalkD K α' F' J1 ds1 ∧ IsL K α' F' ys acc ∧
                      Fin K γ α' F' (((compL t1 vs1 ft1 fe (ds1.drop (j + 1)) δ3 μ' acc).bind fun acc' μ3 => comp2 t vs ft fi1 t1 vs1 ft1 fe (ds.drop (i + 1)) δ μ3 acc').bind fun ys μ2 => .ok (.lst ys) μ2) (okD K Q) (fun c dd H' => W c dd σ H'),
                    fun H' n => ⟨ds1.length - (j + 1), by omega, rfl, n.1, n.2⟩, fun x1 H7 y1 => ?_⟩
                  obtain ⟨F7, e7, w7, hx7⟩ := hy1 x1 H7 y1
                  have q7 := Fin.up (List.prefix_refl _) e7 q6
                  have s7 := s6.mono (List.prefix_refl _) e7
                  have t7 := t6.mono (List.prefix_refl _) e7
                  cases ht1 : t1.set ds1[j] (wipeD δ3 vs1) with
                  | none => rw [ht1] at q7; exact q7.elim
                  | some δ8 =>
                    rw [ht1] at q7
                    refine Tg.go w7 (s7.wipe vs1) hx7 ht1 fun σ8 s8 hw8 _ => ⟨?_, ?_⟩
                    · rw [hw8 vs1 hv1]
                      exact wipe_wipe σ4 vs1
                    · refine ⟨_, α6, F7, μ6, δ8, w7, s8, ?_⟩
                      dsimp only at q7
                      cases hft1 : ft1 δ8 μ6 with
                      | bad => rw [hft1] at q7; exact q7.elim
                      | exc x μ9 => rw [hft1] at q7; exact q7.elim
                      | ok b1 μ9 =>
                        rw [hft1] at q7
                        intro α9 F9 H9 p9 e9 w9
                        have q9 := Fin.up p9 e9 q7
                        cases b1 with
                        | false =>
                          exact iteF ⟨hlt1, α9, F9, μ9, acc6, ys6, w9, s7.mono p9 e9, t7.mono p9 e9, hJ6.mono p9 (e7.trans e9), hK6.mono p9 (e7.trans e9), hl6.mono p9 (e7.trans e9), q9⟩
                        | true =>
                          refine iteT ⟨_, α9, F9, μ9, δ8, w9, s8.mono p9 e9, ?_⟩
                          dsimp only at q9
                          cases hfe : fe δ8 μ9 with
                          | bad => rw [hfe] at q9; exact q9.elim
                          | exc x μ5 => rw [hfe] at q9; exact q9.elim
                          | ok z μ10 =>
                            rw [hfe] at q9
                            intro α10 F10 H10 p10 e10 w10 v hvz
                            have q10 := Fin.up p10 e10 q9
                            dsimp only at q10
                            by_cases hz : acc6.length < 16777216
                            · rw [if_pos hz] at q10
                              have hl10 := hl6.mono (p9.trans p10) ((e7.trans e9).trans e10)
                              exact ⟨ys6, w10.gs _ _ upd_same, by rw [hl10.length, sizeLine_eq]; exact hz, hlt1, α10, F10, μ10, acc6 ++ [z], ys6 ++ [v], w10.gput gD, (s7.mono p9 e9).mono p10 e10, (t7.mono p9 e9).mono p10 e10,
                                hJ6.mono (p9.trans p10) ((e7.trans e9).trans e10), hK6.mono (p9.trans p10) ((e7.trans e9).trans e10), hl10.append (.cons hvz .nil), q10⟩
                            · rw [if_neg hz] at q10; exact q10.elim
                · have e : j = ds1.length := by omega
                  subst e
                  rw [List.drop_length] at q6
                  left
                  unfold compL at q6
                  exact ⟨k2 rfl, hlt, α6, F6, μ6, acc6, ys6, w6, t6, hJ6, hl6, q6⟩
    · have e : i = ds.length := by omega
      subst e
      rw [List.drop_length] at q2
      left
      refine ⟨j2 rfl, ?_⟩
      unfold comp2 at q2
      have fD : F2 Dl = none := w2.gf Dl (by rw [upd_same]; exact Option.some_ne_none _)
      have sn := same_new (o := .lst ys) fD
      exact q2 α2 _ H2 (List.prefix_refl _) sn (w2.gfrz gD) _ (.lst upd_same (hl.mono (List.prefix_refl _) sn))
end
section
variable {X : Cx} {W : WX} {k : Nat}
theorem pd_lc2 {elt tg iter tg1 iter1 : Expr} {ifs ifs1 : List Expr} {scope : Scope} {own : List (Str × Nat)} {vs1 : List Nat} {pos : Pos} {fi fi1 : RA} {t t1 : Tg} {ft ft1 : RT} {fe : RE} (g : Good X W k) (hi : PDI X W tg iter fi) (ok : BlkOk X.N X.env.scope scope own) (hv : ∀ i ∈ t.slots, i ∈ own.map (·.2)) (hv1 : ∀ i ∈ t1.slots, i ∈ vs1) (hv2 : ∀ i ∈ vs1, i ∈ own.map (·.2))
    (hg : ∀ (s : Shared) (H : Hp) (C : Addr) (cl : List (Str × Addr)) (fp : List Addr), PDG (X.blk s H scope (compEnvC scope cl C X.env) fp) tg t)
    (ht : ∀ (s : Shared) (H : Hp) (C : Addr) (cl : List (Str × Addr)) (fp : List Addr), Good (X.blk s H scope (compEnvC scope cl C X.env) fp) W0 k → PDTs (X.blk s H scope (compEnvC scope cl C X.env) fp) W0 ifs ft)
    (hi1 : ∀ (s : Shared) (H : Hp) (C : Addr) (cl : List (Str × Addr)) (fp : List Addr), Good (X.blk s H scope (compEnvC scope cl C X.env) fp) W0 k → PDI (X.blk s H scope (compEnvC scope cl C X.env) fp) W0 tg1 iter1 fi1)
    (hg1 : ∀ (s : Shared) (H : Hp) (C : Addr) (cl : List (Str × Addr)) (fp : List Addr), PDG (X.blk s H scope (compEnvC scope cl C X.env) fp) tg1 t1)
    (ht1 : ∀ (s : Shared) (H : Hp) (C : Addr) (cl : List (Str × Addr)) (fp : List Addr), Good (X.blk s H scope (compEnvC scope cl C X.env) fp) W0 k → PDTs (X.blk s H scope (compEnvC scope cl C X.env) fp) W0 ifs1 ft1)
    (he : ∀ (s : Shared) (H : Hp) (C : Addr) (cl : List (Str × Addr)) (fp : List Addr), Good (X.blk s H scope (compEnvC scope cl C X.env) fp) W0 k → PD (X.blk s H scope (compEnvC scope cl C X.env) fp) W0 elt fe)
    (hs : ∀ x, foldedSetIterable iter X.env x = pure x := by intro _; rfl) (hs1 : ∀ env x, foldedSetIterable iter1 env x = pure x := by intro _ _; rfl) :
    PD X W (.ListComp elt [⟨tg, iter, ifs, 0⟩, ⟨tg1, iter1, ifs1, 0⟩] scope pos) (rLc2 fi t (own.map (·.2)) ft fi1 t1 vs1 ft1 fe) :=
  pe_weak (pe_lc2 g.calm g.nd hi ok hv2 hg (fun s H C cl fp => ht s H C cl fp (g.blk s H scope _ fp)) (fun s H C cl fp => hi1 s H C cl fp (g.blk s H scope _ fp)) hg1 (fun s H C cl fp => ht1 s H C cl fp (g.blk s H scope _ fp)) (fun s H C cl fp => he s H C cl fp (g.blk s H scope _ fp)) hs hs1) (tD_lc2 hv hv1)
end
end DL

/-! The data layer, N10: list(range(a, b)); dict displays. -/
namespace DL
open PySem L2
def rListRg (m : Bool) (fa fb : RE) : RE := fun δ μ => (fa δ μ).bind fun d μ1 => (fb δ μ1).bind fun e μ2 => match d, e with
  | .int i, .int j => if 0 ≤ i ∧ i ≤ 1000000 ∧ 0 ≤ j ∧ j ≤ 1000000 then (if m then .ok (.loc μ2.length) (μ2 ++ [.lst (upTo i (j - i).toNat)]) else .ok (.lst (upTo i (j - i).toNat)) μ2) else .bad
  | _, _ => .bad
section
variable {K : PySem.W.Frag} {γ : Hp} {α : List Addr} {F H : Hp} {μ : List Ob}
theorem is_rg {i j : Int} : IsL K α F (rgV i j) (upTo i (j - i).toNat) := by
  unfold rgV upTo
  generalize List.range (j - i).toNat = l
  induction l with
  | nil => exact .nil
  | cons k l ih => exact .cons (.int _) ih
end
section
variable {X : Cx} {W : WX} {a b : Expr} {fa fb : RE} {pos p p2 pos2 : Pos} {k : Nat}
theorem pd_listRg (m : Bool) (g : Good X W k) (hm : X.mg "list" = none) (hm2 : X.mg "range" = none) (ha : PD X W a fa) (hb : PD X W b fb) (hg : Gl X "list" := by rfl) (hg2 : Gl X "range" := by rfl)
    (na2 : starEach [a, b] X.env = (false, eval a X.env) :: starEach [b] X.env := by rfl) (nb2 : starEach [b] X.env = (false, eval b X.env) :: starEach [] X.env := by rfl)
    (hp : (backTo pos2 (starEach [b] X.env)).any (·.1) = false := by rfl)
    (na : starEach [.Call (.Name "range" p2) [a, b] [] pos2] X.env = (false, eval (.Call (.Name "range" p2) [a, b] [] pos2) X.env) :: starEach [] X.env := by rfl) :
    PD X W (.Call (.Name "list" p) [.Call (.Name "range" p2) [a, b] [] pos2] [] pos) (rListRg m fa fb) :=
  pe_weak (pe_listRg g.calm hg hm (prg_2 hg2 hm2 ha hb na2 nb2 hp) na) fun σ H Q ⟨γ, α, F, μ, δ, w, s, q⟩ => tD_go w s q fun d μ1 α1 F1 H1 v p1 e1 w1 s1 hv q1 => tD_go w1 s1 q1 fun e μ2 α2 F2 H2 u p2 e2 w2 s2 hu q2 => by
    split at q2
    · rename_i i j
      cases hv
      cases hu
      by_cases c : 0 ≤ i ∧ i ≤ 1000000 ∧ 0 ≤ j ∧ j ≤ 1000000
      · rw [if_pos c] at q2
        exact ⟨i, j, rfl, rfl, RgOk.of_le (by omega) (by omega) (by omega) (by omega), fun l hl => fin_new w2 hl is_rg q2⟩
      · rw [if_neg c] at q2; exact q2.elim
    · exact q2.elim
end

/-! ### {k: v, ..}, the keys texts -/
def rDict (ks : List Str) (fs : RA) : RE := fun δ μ => (fs δ (μ ++ [.dct [] []])).bind fun ds μ1 => match μ1[μ.length]? with
  | some (.dct [] []) => if ds.length = ks.length ∧ ks.length ≤ 15 ∧ (ks.map Sum.inr : List Key).Nodup then .ok (.loc μ.length) (μ1.set μ.length (.dct (ks.map Sum.inr) ds)) else .bad
  | _ => .bad
def PDP (X : Cx) (W : WX) (pos : Pos) (keys : List (Option Expr)) (values : List Expr) (ks : List Str) (fs : RA) : Prop :=
  ∃ trs, PPs X pos keys values trs ∧ ∀ σ H Q, tDA X.K W fs σ H (fun vs H' => Q ((ks.map V.str).zip vs) H') → tPairs trs σ H Q
section
variable {X : Cx} {W : WX} {pos p : Pos} {k : Nat} {keys : List (Option Expr)} {values : List Expr} {ks : List Str} {fs : RA} {v : Expr} {fv : RE}
theorem pdp_nil : PDP X W pos [] [] [] rNil := ⟨[], pps_nil, fun σ H Q ⟨γ, α, F, μ, δ, w, s, q⟩ => q α F H (List.prefix_refl _) (Same.refl F) w [] .nil⟩
theorem pdp_cons {z : Str} {j : Nat} (hv : PD X W v fv) (hr : PDP X W pos keys values ks fs) : PDP X W pos (some (.Constant (.str z) j p) :: keys) (v :: values) (z :: ks) (rCons fv fs) := by
  obtain ⟨trs, h1, h2⟩ := hr
  refine ⟨_, pps_cons pe_str hv h1, fun σ H Q ⟨γ, α, F, μ, δ, w, s, q⟩ => ?_⟩
  exact tD_go w s q fun d μ1 α1 F1 H1 u p1 e1 w1 s1 hu q1 => h2 _ _ _ ⟨γ, α1, F1, μ1, δ, w1, s1, by
    cases hf : fs δ μ1 with
    | bad => rw [hf] at q1; exact q1
    | exc x μ2 => rw [hf] at q1; exact q1
    | ok ds μ2 =>
      rw [hf] at q1
      intro α2 F2 H2 p2 e2 w2 vs hvs
      exact (Fin.up p2 e2 q1) α2 F2 H2 (List.prefix_refl _) (Same.refl F2) w2 (u :: vs) (.cons (hu.mono p2 e2) hvs)⟩
theorem putK_new {κ : Type} [DecidableEq κ] {k : κ} {v : V} : ∀ {kvs : List (κ × V)}, k ∉ kvs.map (·.1) → putK kvs k v = kvs ++ [(k, v)] := by
  intro kvs h
  unfold putK
  have e : (kvs.any fun kv => decide (kv.1 = k)) = false := by
    rw [List.any_eq_false]
    intro x hx q
    exact h (List.mem_map.mpr ⟨x, hx, of_decide_eq_true q⟩)
  rw [e]
  rfl
theorem merge_new : ∀ {more kvs : List (Key × V)}, (kvs.map (·.1) ++ more.map (·.1)).Nodup → mergeK kvs more = kvs ++ more
  | [], kvs, _ => by simp [mergeK]
  | (k, v) :: more, kvs, h => by
    have h1 : k ∉ kvs.map (·.1) := fun q => by
      rw [List.map_cons] at h
      exact (List.nodup_append.mp h).2.2 k q k List.mem_cons_self rfl
    show mergeK (putK kvs k v) more = _
    rw [putK_new h1, merge_new]
    · rw [List.append_assoc]; rfl
    · rw [List.map_append, List.append_assoc]
      exact h
theorem zip_kvs : ∀ {ks : List Str} {vs : List V}, (ks.map V.str).zip vs = ((ks.map Sum.inr : List Key).zip vs).map fun kv => (kV kv.1, kv.2)
  | [], _ => rfl
  | _ :: _, [] => rfl
  | k :: ks, v :: vs => by
    show (V.str k, v) :: (ks.map V.str).zip vs = _
    rw [zip_kvs]
    rfl
theorem pd_disp (h : PDP X W pos keys values ks fs) (hall : keys.all (·.isSome) = true := by rfl) (hl : keys.length = values.length := by rfl) (h0 : keys ≠ [] := by simp) (h15 : keys.length ≤ 15 := by decide) : PD X W (.Dict keys values pos) (rDict ks fs) := by
  obtain ⟨trs, h1, h2⟩ := h
  refine pe_weak (pe_disp h1 hall hl h0 h15) fun σ H Q ⟨γ, α, F, μ, δ, w, s, q⟩ l hl => h2 _ _ _ ?_
  have wn : Wd X.K γ (α ++ [l]) F (upd H l (.dK [])) (μ ++ [.dct [] []]) := w.new hl ⟨[], upd_same, rfl, .nil⟩
  refine ⟨γ, α ++ [l], F, μ ++ [.dct [] []], δ, wn, s.mono (List.prefix_append _ _) (Same.refl F), ?_⟩
  unfold rDict at q
  cases hf : fs δ (μ ++ [.dct [] []]) with
  | bad => rw [hf] at q; exact q.elim
  | exc x μ1 =>
    rw [hf] at q
    exact Fin.up (List.prefix_append _ _) (Same.refl F) q
  | ok ds μ1 =>
    rw [hf] at q
    rw [R.ok_bind] at q
    intro α1 F1 H1 p1 e1 w1 vs hvs
    have at1 : α1[μ.length]? = some l := pre_get p1 (w.newAt l)
    cases ho : μ1[μ.length]? with
    | none => rw [ho] at q; exact q.elim
    | some o =>
      rw [ho] at q
      split at q
      · rename_i heq
        cases heq
        obtain ⟨kvs0, hk, hk1, hk2⟩ := w1.obj μ.length l _ at1 ho
        have e0 : kvs0 = [] := by simpa using hk1
        subst e0
        by_cases c : ds.length = ks.length ∧ ks.length ≤ 15 ∧ (ks.map Sum.inr : List Key).Nodup
        · rw [if_pos c] at q
          obtain ⟨c1, c2, c3⟩ := c
          have lv : vs.length = ks.length := by rw [hvs.length, c1]
          have ez1 : ((ks.map Sum.inr : List Key).zip vs).map (·.1) = ks.map Sum.inr := List.map_fst_zip (by rw [List.length_map, lv]; exact Nat.le_refl _)
          have ez2 : ((ks.map Sum.inr : List Key).zip vs).map (·.2) = vs := List.map_snd_zip (by rw [List.length_map, lv]; exact Nat.le_refl _)
          refine ⟨hk, (ks.map Sum.inr : List Key).zip vs, zip_kvs, by rw [List.length_zip, List.length_map, lv]; omega, ?_⟩
          have em : mergeK [] ((ks.map Sum.inr : List Key).zip vs) = (ks.map Sum.inr : List Key).zip vs := by
            rw [merge_new (by rw [ez1]; exact c3)]
            rfl
          rw [em]
          have q1 := Fin.up ((List.prefix_append α [l]).trans p1) e1 q
          refine q1 α1 F1 _ (List.prefix_refl _) (Same.refl F1) (w1.put at1 ho (by intro z; cases z) ⟨_, upd_same, ez1, by rw [ez2]; exact hvs⟩) _ (.loc at1)
        · rw [if_neg c] at q; exact q.elim
      · exact q.elim
end
end DL

/-! The data layer, N12: properties, len by the text's own __len__. -/
namespace DL
open PySem L2
/-- the class C has a property f, kept by contract -/
structure Cpr (P : Program) (w : World) (K : PySem.W.Frag) (mg : Str → Option Value) (base : Heap) (k : Nat) (C : Addr) (f : Str) (ct : Ct) : Prop where
  ex : ∃ (p g : Addr) (fd : FuncData) (ps : List Str), ps.length = 1 ∧ FnOk P w K mg base (L2.CX P w) k g fd ps (spD K 1 ct) ∧ PropOf K C f p g ∧ Cls K C ∧ Binds K fd ps []
def ownP (C : Addr) (ct : Ct) (d : D) (μ : List Ob) : R D := match d.view μ with
  | .ins C1 _ _ => if C1 = C then noX (ct [d] μ) else .bad
  | _ => .bad
def rProp (C : Addr) (ct : Ct) (fe : RE) : RE := fun δ μ => (fe δ μ).bind fun d μ1 => ownP C ct d μ1
/-- the class C has an own length, kept by contract -/
structure Cln (P : Program) (w : World) (K : PySem.W.Frag) (mg : Str → Option Value) (base : Heap) (k : Nat) (C : Addr) (ct : Ct) : Prop where
  ex : ∃ (f : Addr) (fd : FuncData) (ps : List Str), ps.length = 1 ∧ FnOk P w K mg base (L2.CX P w) k f fd ps (spD K 1 ct) ∧ PySem.W.findIn K (.ref C) "__len__" = some (some (.ref f)) ∧ PySem.W.isFn K (.ref f) = true ∧ Binds K fd ps []
def lenO (C : Addr) (ct : Ct) : List D → List Ob → R D := fun ds μ => match ds with
  | [d] => match d.view μ with
    | .ins C1 _ _ => if C1 = C then (match ct [d] μ with
      | .ok (.int n) μ1 => if 0 ≤ n ∧ n < 1000000 then .ok (.int n) μ1 else .bad
      | _ => .bad) else .bad
    | _ => .bad
  | _ => .bad
section
variable {X : Cx} {W : WX} {k j : Nat} {C : Addr} {ct : Ct} {a e : Expr} {fe : RE} {fs : RA} {pos p : Pos} {f : Str}
theorem pd_prop (c : Cpr X.prog X.w X.K X.mg X.base k C f ct) (g : Good X W j) (he : PD X W e fe) (hk : k + 1 ≤ j := by decide) (hb : attributeBase e f X.env (eval e X.env) = eval e X.env := by rfl) : PD X W (.Attribute e f pos) (rProp C ct fe) := by
  obtain ⟨pa, ga, fd, ps, hn, F, hp, hc, hbd⟩ := c.ex
  refine pe_weak (pe_prop he hc hp F (g.hr.mono hk) hbd .nil passL hb) fun σ H Q ⟨γ, α, F1, μ, δ, w, s, q⟩ => tD_go w s q fun d μ1 α1 F2 H1 v p1 e1 w1 s1 hv q1 => ?_
  unfold ownP at q1
  have vw := w1.view hv
  cases hd : d.view μ1 with
  | ins C1 fs xs =>
    rw [hd] at q1 vw
    simp only at q1
    split at q1
    · rename_i hC
      subst hC
      obtain ⟨ad, dx, fv, rfl, h1, _, _⟩ := vw
      refine ⟨ad, dx, fv, rfl, h1, rfl, γ, α1, F2, μ1, [d], w1, .cons hv .nil, ?_⟩
      cases hr : ct [d] μ1 with
      | bad => rw [hr] at q1; exact q1.elim
      | exc x μ2 => rw [hr] at q1; exact q1.elim
      | ok z μ2 => rw [hr] at q1; exact q1
    · exact q1.elim
  | _ => rw [hd] at q1; exact q1.elim
def rLenO (C : Addr) (sp : Sp) (E : XK) : List V → Hp → VK → Prop := fun xs H Q => ∃ a dx fs, xs = [.ref a] ∧ H a = some (.ins C dx fs) ∧ sp [.ref a] H (fun v H' => ∃ n : Int, v = .int n ∧ 0 ≤ n ∧ n < 1000000 ∧ Q (.int n) H') E
theorem cr_lenO {CX : CXT} {f : Addr} {fd : FuncData} {ps : List Str} {sp : Sp} {E : XK} {n : Nat} (F : FnOk X.prog X.w X.K X.mg X.base CX n f fd ps sp) (hr : Room (n + 1) X.A)
    (hs : PySem.W.findIn X.K (.ref C) "__len__" = some (some (.ref f))) (hf : PySem.W.isFn X.K (.ref f) = true) (hb : Binds X.K fd ps []) (hx : Passes CX X.nox E) : CallR X (.builtin "len") (rLenO C sp E) := by
  intro pins s σ H xs us Q I r h
  obtain ⟨ad, dx, fs, rfl, ha, hsp⟩ := h
  rw [Vals.ref1 r]
  obtain ⟨mA, J, _⟩ := ins_get I.hok ha
  obtain ⟨od, J, _⟩ := J.look
  obtain ⟨m, hF⟩ := I.fr
  have hl := F.len _ _ _ _ hsp
  refine PySem.W.len_K hF I.ok.mod.kin J hs hf (wpAny_call (codeAny_mono (F.run X.A.in1 X.stack s H ⟨[.ref ad], []⟩ [.ref ad] [.ref ad] _ E hr.in1 I.env0.in1 (by
    have q := hb s [.ref ad] I.kIn (by simpa using hl)
    simpa using q) (.cons rfl .nil) hsp) fun r s' hq => ?_))
  cases r with
  | error er => exact False.elim (hx pins σ H s er s' (I.wish _) hq)
  | ok fl =>
    cases fl with
    | ret u =>
      obtain ⟨v, H', I3, rv, n, e, h0, h1, q⟩ := I.after hq
      subst e
      obtain ⟨t, rfl⟩ := rv
      exact ⟨⟨h0, by omega⟩, .int n, H', I3.tok _, ⟨_, rfl⟩, q⟩
    | next => exact False.elim hq
    | brk => exact False.elim hq
    | cont => exact False.elim hq
theorem opn_lenO {K : PySem.W.Frag} : Opn K (rLenO C (spD K 1 ct) E0) (lenO C ct) := fun γ α F H μ vs ds Q E w hv q => by
  unfold lenO at q
  match ds, hv, q with
  | [], _, q => exact q.elim
  | _ :: _ :: _, _, q => exact q.elim
  | [d], hv, q =>
    obtain ⟨v, rfl, h⟩ := hv.one
    have vw := w.view h
    simp only at q
    cases hd : d.view μ with
    | ins C1 fs xs =>
      rw [hd] at q vw
      simp only at q
      by_cases hC : C1 = C
      case neg => rw [if_neg hC] at q; exact q.elim
      · rw [if_pos hC] at q
        obtain ⟨ad, dx, fv, rfl, h1, _, _⟩ := vw
        rw [hC] at h1
        refine ⟨ad, dx, fv, rfl, h1, rfl, γ, α, F, μ, [d], w, .cons h .nil, ?_⟩
        cases hr : ct [d] μ with
        | bad => rw [hr] at q; exact q.elim
        | exc x μ2 => rw [hr] at q; exact q.elim
        | ok z μ2 =>
          rw [hr] at q
          cases z with
          | int n =>
            simp only at q
            by_cases c : 0 ≤ n ∧ n < 1000000
            · rw [if_pos c] at q
              exact fun α' F' H' p' e' w' u hu => ⟨n, by cases hu; rfl, c.1, c.2, q α' F' H' p' e' w' (.int n) (.int n)⟩
            · rw [if_neg c] at q; exact q.elim
          | _ => exact q.elim
    | _ => rw [hd] at q; exact q.elim
theorem pd_lenO (c : Cln X.prog X.w X.K X.mg X.base k C ct) (g : Good X W j) (hm : X.mg "len" = none) (ha : PDA X W [e] fs) (hk : k + 1 ≤ j := by decide) (hg : Gl X "len" := by rfl) (he : starEach [e] X.env = (false, eval e X.env) :: starEach [] X.env := by rfl) :
    PD X W (.Call (.Name "len" p) [e] [] pos) (rCB (lenO C ct) fs) := by
  obtain ⟨f, fd, ps, hn, F, hs, hf, hbd⟩ := c.ex
  exact pd_callB (cr_lenO F (g.hr.mono hk) hs hf hbd passL) opn_lenO PySem.boot_len hm ha hg (by decide) (by decide) he rfl
end
end DL

/-! The data layer, N13: the heads' words for properties and lengths. -/
namespace DL
open PySem L2
/-- a property f of the class C, its getter the text's st -/
structure Dp (K : PySem.W.Frag) (f qf : Str) (st : Stmt) (C : Addr) (ps : List Str) : Prop where
  ex : ∃ (p g : Addr) (fd : FuncData), Fun K f qf st g fd ∧ Binds K fd ps [] ∧ PropOf K C f p g ∧ Cls K C
/-- the class C has a length, the text's st -/
structure Dn (K : PySem.W.Frag) (qf : Str) (st : Stmt) (C : Addr) (ps : List Str) : Prop where
  ex : ∃ (g : Addr) (fd : FuncData), Fun K "__len__" qf st g fd ∧ Binds K fd ps [] ∧ PySem.W.findIn K (.ref C) "__len__" = some (some (.ref g)) ∧ PySem.W.isFn K (.ref g) = true
section
variable {P : Program} {w : World} {K : PySem.W.Frag} {mg : Str → Option Value} {base : Heap} {f qf : Str} {st : Stmt} {ps N : List Str} {k : Nat} {ct : Ct} {fb : RS} {C : Addr}
theorem Dp.cpr (d : Dp K f qf st C ps) (S : FnScope N ps (defScope st)) (b : Body P w K mg base qf st N k fb) (c : Covs N ps ct fb) (hn : ps.length = 1 := by rfl) (hnp : ps.length ≤ N.length := by decide) : Cpr P w K mg base (k + 1) C f ct := by
  obtain ⟨p, g, fd, F, hb, h1, h2⟩ := d.ex
  exact ⟨p, g, fd, ps, hn, by have q := fn_cal F S hnp (b g) c; rw [hn] at q; exact q, h1, h2, hb⟩
theorem Dn.cln (d : Dn K qf st C ps) (S : FnScope N ps (defScope st)) (b : Body P w K mg base qf st N k fb) (c : Covs N ps ct fb) (hn : ps.length = 1 := by rfl) (hnp : ps.length ≤ N.length := by decide) : Cln P w K mg base (k + 1) C ct := by
  obtain ⟨g, fd, F, hb, h1, h2⟩ := d.ex
  exact ⟨g, fd, ps, hn, by have q := fn_cal F S hnp (b g) c; rw [hn] at q; exact q, h1, h2, hb⟩
end
end DL

namespace DL
open PySem PySem.SeqAt L2 GQ
open AutoSeq1 (wpAny_loadPart')
open MeetsSeq MeetsSeq2 MeetsSeq3 SeqRoads2
section
variable {prog : Program} {w : World} {A : Around} {R : Result → Shared → Prop}
theorem tuple_eqE (l b : Addr) (items items2 : Array Value) (n n2 : Nat) (dd dd2 : Option Addr) (sl sl2 : Array (Option Value)) (hsz : items.size = items2.size) (e : Nat → Bool) {s : Shared}
    (turn : ∀ i (h1 : i < items.size) (h2 : i < items2.size), SeqAt.EqP prog w A.in1 s items[i] items2[i] (e i))
    (fin : R (.ok (.ret (.bool ((List.range items.size).all e)))) s) (hl1 : s.heap.get? l = some { cls := .type "tuple", dict := dd, data := .seq items n, slots := sl }) (hb1 : s.heap.get? b = some { cls := .type "tuple", dict := dd2, data := .seq items2 n2, slots := sl2 }) :
    wpAny (model prog w) A.in1 (Builtin.«tuple.__eq__» ⟨[.ref l, .ref b], []⟩) (FinOf prog w A R) (fun e s' => R (.error e) s') s := by
  have f2 := AutoSeq1.sub_tuple_tuple
  have hZ : (items.toList.zip items2.toList).length = items.size := by simp [hsz]
  obtain ⟨hp, g, d, tk, os⟩ := s
  wp_walk using wpAny_loadPart' hl1, wpAny_loadPart' hb1, wpAny_forIn_list _ (fun rest b s' => s' = ⟨hp, g, d, tk, os⟩ ∧ b.1 = none ∧ ∃ i, rest = (items.toList.zip items2.toList).drop i ∧ i ≤ items.size ∧ ∀ j, j < i → e j = true) _
  case turn =>
    rintro ⟨y, x⟩ rest b s' ⟨rfl, hb', i, hz, hi, hI⟩
    have hlt : i < (items.toList.zip items2.toList).length := by
      rcases Nat.lt_or_ge i (items.toList.zip items2.toList).length with h' | h'
      · exact h'
      · rw [List.drop_of_length_le h'] at hz; cases hz
    have h1 : i < items.size := hZ ▸ hlt
    have h2 : i < items2.size := hsz ▸ h1
    rw [List.drop_eq_getElem_cons hlt] at hz
    injection hz with hyx hrest
    have hy : y = items[i] := by have := congrArg Prod.fst hyx; simpa using this
    have hx : x = items2[i] := by have := congrArg Prod.snd hyx; simpa using this
    subst hy hx
    refine wpAny_bind (turn i h1 h2 _ _ ?_)
    cases he : e i with
    | true =>
      wp_walk
      refine ⟨rfl, rfl, i + 1, hrest, h1, fun j hj => ?_⟩
      rcases Nat.lt_succ_iff_lt_or_eq.mp hj with q | q
      · exact hI j q
      · rw [q]; exact he
    | false =>
      have ha : (List.range items.size).all e = false := by
        rw [List.all_eq_false]
        exact ⟨i, List.mem_range.mpr h1, by rw [he]; exact Bool.false_ne_true⟩
      rw [ha] at fin
      wp_walk
      exact fin
  case fin =>
    rintro ⟨b1, b2⟩ s' ⟨rfl, hb', i, hz, hi, hI⟩
    simp only at hb'
    subst hb'
    have hge : items.size ≤ i := by
      rcases Nat.lt_or_ge i (items.toList.zip items2.toList).length with h' | h'
      · rw [List.drop_eq_getElem_cons h'] at hz; cases hz
      · exact hZ ▸ h'
    have ha : (List.range items.size).all e = true := List.all_eq_true.mpr fun j hj => hI j (by have := List.mem_range.mp hj; omega)
    rw [ha] at fin
    wp_walk
    simpa [Builtin.Tuple.tupleCompareSizes, hsz] using fin
  case h =>
    exact ⟨rfl, rfl, 0, rfl, Nat.zero_le _, fun j hj => absurd hj (Nat.not_lt_zero j)⟩
theorem rcP_tups {s : Shared} {l b : Addr} {items items2 : Array Value} {e : Nat → Bool} (hl : s.heap.IsTuple l items) (hb : s.heap.IsTuple b items2) (hsz : items.size = items2.size) (hu : A.units < cLine)
    (he : ∀ j (h1 : j < items.size) (h2 : j < items2.size), SeqAt.EqP prog w A.in1 s items[j] items2[j] (e j)) (E Q : Value → Shared → Prop) (h : Q (.bool ((List.range items.size).all e)) s) : wpAny (model prog w) A (richCompare .Eq (.ref l) (.ref b)) Q E s := by
  obtain ⟨⟨cls, dd, data, sl⟩, ho, hc, n, hd⟩ := id hl
  obtain ⟨⟨cls2, dd2, data2, sl2⟩, ho2, hc2, n2, hd2⟩ := id hb
  simp only at hc hd hc2 hd2
  subst hc hd hc2 hd2
  refine wpAny_richCompare_same_room (op := .Eq) ⟨_, ho, rfl⟩ ⟨_, ho2, rfl⟩ F.slot_tuple_eq (call_here F.slot_tuple_eq ⟨_, ho, rfl⟩ F.entry_tuple_eq (F.args_tuple_eq_2 _ _) ?_) hu
  exact tuple_eqE (R := wants (fun v s' => v ≠ .notImplemented ∧ Q v s') E) l b items items2 n n2 dd dd2 sl sl2 hsz e he ⟨(fun x => nomatch x), h⟩ ho ho2
end
end DL

/-! The data layer, M4: == of nested data, both answers. -/
namespace DL
open PySem L2
def allO (q : D → D → Option Bool) : List D → List D → Option Bool
  | [], [] => some true
  | x :: xs, y :: ys => match q x y with
    | some b => (allO q xs ys).map (b && ·)
    | none => none
  | _, _ => none
def hitO (q : D → D → Option Bool) (ls : List Key) (ys : List D) : List Key → List D → Option Bool
  | [], [] => some true
  | k :: ks, x :: xs => match lookD ls ys k with
    | none => some false
    | some y => match q x y with
      | some b => (hitO q ls ys ks xs).map (b && ·)
      | none => none
  | _, _ => none
/-- == of plain data; of dicts of plain data too; of tuples of such -/
def eq0 (μ : List Ob) (d e : D) : Option Bool := if ((d.view μ).okd 50 && (e.view μ).okd 50) = true then some ((d.view μ).eqb (e.view μ)) else none
def dctX (μ : List Ob) (d e : D) : Option Bool := match d, e with
  | .dct ks xs, .dct ls ys => if ks.length = ls.length then hitO (eq0 μ) ls ys ks xs else some false
  | _, _ => none
def eq1 (μ : List Ob) (d e : D) : Option Bool := match eq0 μ d e with
  | some b => some b
  | none => dctX μ (d.view μ) (e.view μ)
def tupX (μ : List Ob) (d e : D) : Option Bool := match d, e with
  | .tup xs, .tup ys => if xs.length = ys.length then allO (eq1 μ) xs ys else none
  | d, e => dctX μ d e
section
variable {X : Cx} {pins : List (Addr × Obj)} {σ : St} {H : Hp} {s : Shared} {γ : Hp} {α : List Addr} {F : Hp} {μ : List Ob}
theorem allO_len {q : D → D → Option Bool} : ∀ {xs ys : List D} {b : Bool}, allO q xs ys = some b → xs.length = ys.length
  | [], [], _, _ => rfl
  | x :: xs, y :: ys, b, h => by
    unfold allO at h
    cases hq : q x y with
    | none => rw [hq] at h; cases h
    | some c =>
      rw [hq] at h
      cases hr : allO q xs ys with
      | none => rw [hr] at h; cases h
      | some c' => rw [List.length_cons, List.length_cons, allO_len hr]
  | [], _ :: _, _, h => by simp [allO] at h
  | _ :: _, [], _, h => by simp [allO] at h
/-- what runs for each pair -/
abbrev Rr (X : Cx) (α : List Addr) (F : Hp) (A : Around) (s : Shared) (q : D → D → Option Bool) : Prop := ∀ (x y : V) (d e : D) (b : Bool), Is X.K α F x d → Is X.K α F y e → q d e = some b → ∀ (v u : Value), RelV x v → RelV y u → SeqAt.EqP X.prog X.w A s v u b
theorem allO_run {A : Around} {q : D → D → Option Bool} (ih : Rr X α F A s q) : ∀ {xs ys : List D} {vs us : List V} {as bs : List Value} {b : Bool}, IsL X.K α F vs xs → IsL X.K α F us ys → Vals vs as → Vals us bs → allO q xs ys = some b →
    ∃ e : Nat → Bool, (∀ j (h1 : j < as.length) (h2 : j < bs.length), SeqAt.EqP X.prog X.w A s as[j] bs[j] (e j)) ∧ (List.range as.length).all e = b
  | [], [], _, _, _, _, b, .nil, .nil, .nil, .nil, h => by
    simp [allO] at h
    subst h
    exact ⟨fun _ => true, fun j h1 => absurd h1 (Nat.not_lt_zero j), rfl⟩
  | x :: xs, y :: ys, _, _, _, _, b, .cons hx lx, .cons hy ly, .cons rx tx, .cons ry ty, h => by
    unfold allO at h
    cases hq : q x y with
    | none => rw [hq] at h; cases h
    | some c =>
      rw [hq] at h
      cases hr : allO q xs ys with
      | none => rw [hr] at h; cases h
      | some c' =>
        rw [hr] at h
        have hb : (c && c') = b := by simpa using h
        obtain ⟨e, h1, h2⟩ := allO_run ih lx ly tx ty hr
        refine ⟨fun j => match j with | 0 => c | j + 1 => e j, fun j k1 k2 => ?_, ?_⟩
        · cases j with
          | zero => exact ih _ _ _ _ _ hx hy hq _ _ rx ry
          | succ j => exact h1 j (by simpa using k1) (by simpa using k2)
        · rw [← hb, ← h2, List.length_cons, List.range_succ_eq_map, List.all_cons, List.all_map]
          rfl
  | [], _ :: _, _, _, _, _, _, _, _, _, _, h => by simp [allO] at h
  | _ :: _, [], _, _, _, _, _, _, _, _, _, h => by simp [allO] at h
theorem hitO_run {A : Around} {q : D → D → Option Bool} (ih : Rr X α F A s q) {ls : List (Key × V)} {ys : List D} (l' : IsL X.K α F (ls.map (·.2)) ys) {vb : List (Key × Value)} (rb : KV ls vb) : ∀ {kvs : List (Key × V)} {xs : List D} {va : List (Key × Value)} {b : Bool}, IsL X.K α F (kvs.map (·.2)) xs → KV kvs va → hitO q (ls.map (·.1)) ys (kvs.map (·.1)) xs = some b →
    PySem.W.KeqHitsP X.prog X.w A s vb va b
  | [], [], [], b, .nil, .nil, h => by
    simp [hitO] at h
    subst h
    exact .nil
  | (k, v) :: kvs, x :: xs, (k2, u) :: va, b, .cons hx lx, .cons hk rk, h => by
    obtain ⟨hk1, hk2⟩ := hk
    have hk1 : k = k2 := hk1
    subst hk1
    rw [List.map_cons, hitO] at h
    have lk := look_val k l'
    cases hl : lookD (ls.map (·.1)) ys k with
    | none =>
      rw [hl] at h
      have : b = false := by simpa using h.symm
      subst this
      have rr : RelO (valV ls k) (valueAt vb k) := rb.val k
      rw [lk.2 hl] at rr
      exact .miss (by cases hv : valueAt vb k with
        | none => rfl
        | some z => rw [hv] at rr; exact rr.elim)
    | some y =>
      rw [hl] at h
      obtain ⟨w, hw1, hw2⟩ := lk.1 y hl
      have rr : RelO (some w) (valueAt vb k) := by rw [← hw1]; exact rb.val k
      obtain ⟨z, hz, rz⟩ := rr.some_of
      simp only at h
      cases hq : q x y with
      | none => rw [hq] at h; cases h
      | some c =>
        rw [hq] at h
        cases hr : hitO q (ls.map (·.1)) ys (kvs.map (·.1)) xs with
        | none => simp only [hr] at h; cases h
        | some c' =>
          simp only [hr] at h
          have hb : (c && c') = b := by simpa using h
          rw [← hb]
          exact .hit hz (ih _ _ _ _ _ hx hw2 hq _ _ hk2 rz) (hitO_run ih l' rb lx rk hr)
theorem plain_run (w : Wd X.K γ α F H μ) (I : Inv X pins σ H s) {A : Around} (hu : A.units + 50 < cLine) {x y : V} {d e : D} (hx : Is X.K α F x d) (hy : Is X.K α F y e) (h1 : (d.view μ).okd 50 = true) (h2 : (e.view μ).okd 50 = true) {v u : Value} (rx : RelV x v) (ry : RelV y u) :
    SeqAt.EqP X.prog X.w A s v u ((d.view μ).eqb (e.view μ)) := by
  obtain ⟨as, r1⟩ := Dp.reads I _ _ _ (w.dp hx h1) rx
  obtain ⟨bs, r2⟩ := Dp.reads I _ _ _ (w.dp hy h2) ry
  have s1 := okd_shaped 50 _ h1
  have s2 := okd_shaped 50 _ h2
  rw [← eqb_eqv 50 _ _ h1 h2]
  exact (SeqAt.eqAt_reads _ _ A s v u as bs r1 r2 s1.1 s2.1 (by have := s1.2; have := Nat.min_le_left (d.view μ).py.depth (e.view μ).py.depth; omega)).eqP
theorem eq0_run (w : Wd X.K γ α F H μ) (I : Inv X pins σ H s) {A : Around} (hu : A.units + 50 < cLine) : Rr X α F A s (eq0 μ) := fun x y d e b hx hy h v u rx ry => by
  unfold eq0 at h
  split at h
  · rename_i c
    rw [Bool.and_eq_true] at c
    cases h
    exact plain_run w I hu hx hy c.1 c.2 rx ry
  · cases h
/-- a value and itself -/
theorem eq0_same (w : Wd X.K γ α F H μ) (I : Inv X pins σ H s) {x : V} {d e : D} {b : Bool} (hx : Is X.K α F x d) (hy : Is X.K α F x e) (h : eq0 μ d e = some b) {v : Value} (rx : RelV x v) : b = true := by
  unfold eq0 at h
  split at h
  · rename_i c
    rw [Bool.and_eq_true] at c
    cases h
    obtain ⟨as, r1⟩ := Dp.reads I _ _ _ (w.dp hx c.1) rx
    obtain ⟨bs, r2⟩ := Dp.reads I _ _ _ (w.dp hy c.2) rx
    have s1 := okd_shaped 50 _ c.1
    have q := SeqAt.Reads.unique _ _ _ _ _ s1.1 r1 r2
    rw [← eqb_eqv 50 _ _ c.1 c.2, ← q]
    exact SeqAt.eqv_refl _ s1.1
  · cases h
theorem valV_mem {k : Key} {v : V} : ∀ {kvs : List (Key × V)}, (kvs.map (·.1)).Nodup → (k, v) ∈ kvs → valV kvs k = some v
  | (k', v') :: r, nd, hm => by
    obtain ⟨n1, n2⟩ := List.nodup_cons.mp nd
    rcases List.mem_cons.mp hm with e | hm
    · cases e
      rw [valV_pos rfl]
    · have : ¬ k' = k := fun e => n1 (List.mem_map.mpr ⟨(k, v), hm, e.symm⟩)
      rw [valV_neg this]
      exact valV_mem n2 hm
theorem hit_same (w : Wd X.K γ α F H μ) (I : Inv X pins σ H s) {kvs : List (Key × V)} {ys : List D} (l' : IsL X.K α F (kvs.map (·.2)) ys) (nd : (kvs.map (·.1)).Nodup) : ∀ {r : List (Key × V)} {xs : List D} {va : List (Key × Value)} {b : Bool}, (∀ p ∈ r, p ∈ kvs) → IsL X.K α F (r.map (·.2)) xs → KV r va → hitO (eq0 μ) (kvs.map (·.1)) ys (r.map (·.1)) xs = some b → b = true
  | [], [], [], b, _, .nil, .nil, h => by
    simp [hitO] at h
    exact h
  | (k, v) :: r, x :: xs, (k2, u) :: va, b, hs, .cons hx lx, .cons hk rk, h => by
    rw [List.map_cons, hitO] at h
    have lk := look_val k l'
    have vm := valV_mem nd (hs (k, v) List.mem_cons_self)
    cases hl : lookD (kvs.map (·.1)) ys k with
    | none => rw [lk.2 hl] at vm; cases vm
    | some y =>
      rw [hl] at h
      obtain ⟨w', hw1, hw2⟩ := lk.1 y hl
      rw [vm] at hw1
      cases hw1
      simp only at h
      cases hq : eq0 μ x y with
      | none => rw [hq] at h; cases h
      | some c =>
        rw [hq] at h
        cases hr : hitO (eq0 μ) (kvs.map (·.1)) ys (r.map (·.1)) xs with
        | none => simp only [hr] at h; cases h
        | some c' =>
          simp only [hr] at h
          have hb : (c && c') = b := by simpa using h
          rw [← hb, eq0_same w I hx hw2 hq hk.2, hit_same w I l' nd (fun p hp => hs p (List.mem_cons_of_mem _ hp)) lx rk hr]
          rfl
theorem dct_run (w : Wd X.K γ α F H μ) (I : Inv X pins σ H s) {A : Around} (hu : A.units + 52 < cLine) {x y : V} {d e : D} {b : Bool} (v1 : Vw X.K α F H x d) (v2 : Vw X.K α F H y e) (h : dctX μ d e = some b) {v u : Value} (rx : RelV x v) (ry : RelV y u) :
    ∃ a c, v = .ref a ∧ u = .ref c ∧ (a = c → b = true) ∧ ∀ (E Q : Value → Shared → Prop), Q (.bool b) s → wpAny (model X.prog X.w) A (richCompare .Eq (.ref a) (.ref c)) Q E s := by
  unfold dctX at h
  split at h
  · rename_i ks xs ls ys
    obtain ⟨a, kvs, rfl, ha, rfl, la⟩ := v1
    obtain ⟨c, lvs, rfl, hc, rfl, lc⟩ := v2
    cases (show v = Value.ref a from rx)
    cases (show u = Value.ref c from ry)
    obtain ⟨_, ya, va, ra, da⟩ := rdd_of I ha
    obtain ⟨_, yb, vb, rb, db⟩ := rdd_of I hc
    refine ⟨a, c, rfl, rfl, fun hac => ?_, fun E Q hQ => ?_⟩
    · subst hac
      have e : kvs = lvs := by
        rcases ha with ha | ⟨o, ha⟩ <;> rcases hc with hc | ⟨o', hc⟩ <;> (rw [ha] at hc; first | (cases hc; done) | (cases hc; rfl))
      subst e
      rw [if_pos rfl] at h
      have nd : (kvs.map (·.1)).Nodup := by
        obtain ⟨_, _, _, _, _, _, _, _, nd⟩ := da
        have ek : ∀ {ks : List (Key × V)} {us : List (Key × Value)}, KV ks us → ks.map (·.1) = us.map (·.1) := by
          intro ks us r
          unfold KV at r
          induction r with
          | nil => rfl
          | cons p _ ih => rw [List.map_cons, List.map_cons, ih, p.1]
        rw [ek ra]
        exact nd
      exact hit_same w I lc nd (fun p hp => hp) la ra h
    · split at h
      · rename_i hlen
        have hits := hitO_run (eq0_run w I (A := A.in1) (by show A.units + 1 + 50 < cLine; omega)) lc rb la ra h
        refine PySem.W.rcP_dicts (knd := mixKind X.prog X.w) (r := b) ya yb da db (by omega) (fun _ => hits) E Q ?_
        have e : va.length = vb.length := by
          rw [← ra.length, ← rb.length]
          rw [List.length_map, List.length_map] at hlen
          exact hlen
        rw [show (va.length == vb.length && b) = b from by rw [e]; simp]
        exact hQ
      · rename_i hlen
        have : b = false := by simpa using h.symm
        subst this
        have ne : ¬ va.length = vb.length := fun e => hlen (by rw [List.length_map, List.length_map, ra.length, rb.length, e])
        refine PySem.W.rcP_dicts (knd := mixKind X.prog X.w) (r := false) ya yb da db (by omega) (fun e => absurd e ne) E Q ?_
        rw [Bool.and_false]
        exact hQ
  · cases h
theorem eq1_run (w : Wd X.K γ α F H μ) (I : Inv X pins σ H s) {A : Around} (hu : A.units + 54 < cLine) : Rr X α F A s (eq1 μ) := fun x y d e b hx hy h v u rx ry => by
  unfold eq1 at h
  split at h
  · rename_i c hc
    cases h
    exact eq0_run w I (by omega) _ _ _ _ _ hx hy hc _ _ rx ry
  · obtain ⟨a, c, rfl, rfl, same, run⟩ := dct_run w I (A := A) (by omega) (w.view hx) (w.view hy) h rx ry
    by_cases hac : a = c
    · rw [same hac]
      subst hac
      exact (SeqAt.EqAt.same _).eqP
    · exact SeqAt.eqP_refs hac run
theorem tup_run (w : Wd X.K γ α F H μ) (I : Inv X pins σ H s) {A : Around} (hu : A.units + 56 < cLine) {x y : V} {d e : D} {b : Bool} (v1 : Vw X.K α F H x d) (v2 : Vw X.K α F H y e) (h : tupX μ d e = some b) {v u : Value} (rx : RelV x v) (ry : RelV y u) :
    ∃ a c, v = .ref a ∧ u = .ref c ∧ ∀ (E Q : Value → Shared → Prop), Q (.bool b) s → wpAny (model X.prog X.w) A (richCompare .Eq (.ref a) (.ref c)) Q E s := by
  unfold tupX at h
  split at h
  · rename_i xs ys
    obtain ⟨a, vs, rfl, ha, la⟩ := v1
    obtain ⟨c, us, rfl, hc, lc⟩ := v2
    cases (show v = Value.ref a from rx)
    cases (show u = Value.ref c from ry)
    split at h
    · rename_i hlen
      obtain ⟨its, r, t, z⟩ := I.tuple ha
      obtain ⟨its2, r2, t2, z2⟩ := I.tuple hc
      obtain ⟨ef, h1, h2⟩ := allO_run (eq1_run w I (A := A.in1) (by show A.units + 1 + 54 < cLine; omega)) la lc r r2 h
      have hsz : its.toArray.size = its2.toArray.size := by
        rw [List.size_toArray, List.size_toArray, ← r.length, ← r2.length, la.length, lc.length, hlen]
      refine ⟨a, c, rfl, rfl, fun E Q hQ => rcP_tups t t2 hsz (by omega) (fun j k1 k2 => ?_) E Q (by rw [List.size_toArray, h2]; exact hQ)⟩
      have := h1 j (by simpa using k1) (by simpa using k2)
      simpa using this
    · cases h
  · obtain ⟨a, c, e1, e2, _, run⟩ := dct_run w I (A := A) (by omega) v1 v2 h rx ry
    exact ⟨a, c, e1, e2, run⟩
/-- a == b -/
def rEqG (K : PySem.W.Frag) : R2 := fun x y H Q => rEqD K x y H Q ∨ ∃ γ α F μ d e b, Wd K γ α F H μ ∧ Vw K α F H x d ∧ Vw K α F H y e ∧ tupX μ d e = some b ∧ Q (.bl b) H
theorem op_eqG (hu : X.A.units + 64 < cLine) : OpR X (compareOp .Eq) (rEqG X.K) := by
  intro pins s σ H x y v u Q I rx ry h
  rcases h with h | ⟨γ, α, F, μ, d, e, b, w, v1, v2, h, q⟩
  · exact op_eqD hu pins s σ H x y v u Q I rx ry h
  · obtain ⟨a, c, rfl, rfl, run⟩ := tup_run w I (A := X.A) (by omega) v1 v2 h rx ry
    show wpAny (model X.prog X.w) X.A (richCompare .Eq (.ref a) (.ref c)) (EP X pins σ Q) X.xe s
    exact run _ _ ⟨.bl b, H, I, rfl, q⟩
end
def eqG (d e : D) (μ : List Ob) : R D := match eqD d e μ with
  | .ok r μ1 => .ok r μ1
  | _ => match tupX μ (d.view μ) (e.view μ) with
    | some b => .ok (.bl b) μ
    | none => .bad
theorem op2_eqG {K : PySem.W.Frag} : Op2 K (rEqG K) eqG := fun γ α F H μ x y d e Q E w hx hy q => by
  unfold eqG at q
  cases h : eqD d e μ with
  | ok r μ1 =>
    rw [h] at q
    exact .inl (op2_eq γ α F H μ x y d e Q E w hx hy (by rw [h]; exact q))
  | exc z μ1 =>
    unfold eqD at h
    split at h <;> cases h
  | bad =>
    rw [h] at q
    simp only at q
    cases ht : tupX μ (d.view μ) (e.view μ) with
    | none => rw [ht] at q; exact q.elim
    | some b =>
      rw [ht] at q
      exact .inr ⟨γ, α, F, μ, _, _, b, w, w.view hx, w.view hy, ht, q α F H (List.prefix_refl _) (Same.refl F) w _ (.bl b)⟩
section
variable {X : Cx} {W : WX} {a b : Expr} {fa fb : RE} {pos : Pos} {k : Nat}
theorem pd_eqG (g : Good X W k) (ha : PD X W a fa) (hb : PD X W b fb) (hm : behindInMarks .Eq b = false := by rfl) : PD X W (.Compare a [.Eq] [b] pos) (rBin eqG fa fb) := pd_cmp (op_eqG (by have := g.hu; omega)) op2_eqG hm ha hb
theorem pdt_eqG (g : Good X W k) (ha : PD X W a fa) (hb : PD X W b fb) (hm : behindInMarks .Eq b = false := by rfl) : PDT X W (.Compare a [.Eq] [b] pos) (rT (rBin eqG fa fb)) := pdt_cmp (op_eqG (by have := g.hu; omega)) op2_eqG hm ha hb
end
/-! ### != of dicts that are equal -/
def sameA : Option D → D → Bool
  | some (.str a), .str b => decide (a = b)
  | some (.int a), .int b => decide (a = b)
  | some (.bl a), .bl b => decide (a = b)
  | _, _ => false
def sameK (ls : List Key) (ys : List D) : List Key → List D → Bool
  | [], [] => true
  | k :: ks, x :: xs => sameA (lookD ls ys k) x && sameK ls ys ks xs
  | _, _ => false
def neG (d e : D) (μ : List Ob) : R D := match neD d e μ with
  | .ok r μ1 => .ok r μ1
  | _ => match d.view μ, e.view μ with
    | .dct ks xs, .dct ls ys => if ks.length = ls.length ∧ sameK ls ys ks xs = true then .ok (.bl false) μ else .bad
    | _, _ => .bad
section
variable {X : Cx} {K : PySem.W.Frag} {γ : Hp} {α : List Addr} {F H : Hp} {μ : List Ob}
theorem sameK_ok {ls : List (Key × V)} {ys : List D} (l' : IsL K α F (ls.map (·.2)) ys) : ∀ {kvs : List (Key × V)} {xs : List D}, IsL K α F (kvs.map (·.2)) xs → sameK (ls.map (·.1)) ys (kvs.map (·.1)) xs = true → ∀ p ∈ kvs, valV ls p.1 = some p.2 ∧ flatB p.2 = true
  | [], _, _, _ => fun p hp => absurd hp (by simp)
  | (k, v) :: kvs, x :: xs, .cons hx lx, h => by
    rw [List.map_cons, sameK, Bool.and_eq_true] at h
    obtain ⟨h1, h2⟩ := h
    intro p hp
    rcases List.mem_cons.mp hp with rfl | hp
    · cases hl : lookD (ls.map (·.1)) ys k with
      | none => rw [hl] at h1; simp [sameA] at h1
      | some y =>
        rw [hl] at h1
        obtain ⟨w, hw1, hw2⟩ := (look_val k l').1 y hl
        refine ⟨hw1.trans ?_, ?_⟩
        · cases y <;> cases x <;> first
            | (simp [sameA] at h1; done)
            | (have h1 := of_decide_eq_true h1; subst h1; cases hx; cases hw2; rfl)
        · cases y <;> cases x <;> first
            | (simp [sameA] at h1; done)
            | (have h1 := of_decide_eq_true h1; subst h1; cases hx; rfl)
    · exact sameK_ok l' lx h2 p hp
def rNeG (K : PySem.W.Frag) : R2 := fun x y H Q => rNeD K x y H Q ∨ ∃ a b ks ls, x = .ref a ∧ y = .ref b ∧ RdD H a ks ∧ RdD H b ls ∧ ks.length = ls.length ∧ (∀ p ∈ ks, valV ls p.1 = some p.2 ∧ flatB p.2 = true) ∧ Q (.bl false) H
theorem op_neG (hu : X.A.units + 64 < cLine) : OpR X (compareOp .NotEq) (rNeG X.K) := by
  intro pins s σ H x y v u Q I rx ry h
  rcases h with h | ⟨a, b, ks, ls, rfl, rfl, ea, eb, hlen, hp, q⟩
  · exact op_neD hu pins s σ H x y v u Q I rx ry h
  · obtain rfl : v = Value.ref a := rx
    obtain rfl : u = Value.ref b := ry
    obtain ⟨_, ya, va, ra, da⟩ := rdd_of I ea
    obtain ⟨_, yb, vb, rb, db⟩ := rdd_of I eb
    have hl : va.length = vb.length := by rw [← ra.length, ← rb.length]; exact hlen
    exact PySem.W.keq_ne (knd := mixKind X.prog X.w) (r := true) ya yb da db (by omega) (fun _ => hits_all rb ra hp) (fin_bl I q (by simp [hl]))
theorem op2_neG : Op2 K (rNeG K) neG := fun γ α F H μ x y d e Q E w hx hy q => by
  unfold neG at q
  cases h : neD d e μ with
  | ok r μ1 =>
    rw [h] at q
    exact .inl (op2_ne γ α F H μ x y d e Q E w hx hy (by rw [h]; exact q))
  | exc z μ1 =>
    unfold neD at h
    split at h <;> cases h
  | bad =>
    rw [h] at q
    simp only at q
    have v1 := w.view hx
    have v2 := w.view hy
    cases h1 : d.view μ with
    | dct ks xs =>
      cases h2 : e.view μ with
      | dct ls ys =>
        rw [h1, h2] at q
        rw [h1] at v1
        rw [h2] at v2
        simp only at q
        split at q
        · rename_i c
          obtain ⟨a, kvs, rfl, ha, rfl, la⟩ := v1
          obtain ⟨b, lvs, rfl, hb, rfl, lb⟩ := v2
          refine .inr ⟨a, b, kvs, lvs, rfl, rfl, ha, hb, by simpa using c.1, sameK_ok lb la c.2, q α F H (List.prefix_refl _) (Same.refl F) w _ (.bl false)⟩
        · exact q.elim
      | _ => rw [h1, h2] at q; exact q.elim
    | _ => rw [h1] at q; exact q.elim
end
section
variable {X : Cx} {W : WX} {a b : Expr} {fa fb : RE} {pos : Pos} {k : Nat}
theorem pd_neG (g : Good X W k) (ha : PD X W a fa) (hb : PD X W b fb) (hm : behindInMarks .NotEq b = false := by rfl) : PD X W (.Compare a [.NotEq] [b] pos) (rBin neG fa fb) := pd_cmp (op_neG (by have := g.hu; omega)) op2_neG hm ha hb
theorem pdt_neG (g : Good X W k) (ha : PD X W a fa) (hb : PD X W b fb) (hm : behindInMarks .NotEq b = false := by rfl) : PDT X W (.Compare a [.NotEq] [b] pos) (rT (rBin neG fa fb)) := pdt_cmp (op_neG (by have := g.hu; omega)) op2_neG hm ha hb
end
end DL

/-! The data layer, M6: {**a, k: v}, at the library's level. -/
namespace PySem
open Sem (wp)
section
variable {prog : Program} {w : World} {K : Type} [DecidableEq K] {knd : KeyKind prog w K} {A : Around} {E : Value → Shared → Prop} {s : Shared}
theorem stars_put {d : Addr} {kvs : List (K × Value)} {k : K} {key v : Value} {Q : Unit → Shared → Prop} (hkey : knd.is k key = true) (hm : s.heap.DictOf knd d kvs)
    (hQ : ∀ h', h'.DictOf knd d (stored kvs k v) → Heap.SameBut d s.heap h' → Q () { s with heap := h' })
    (hsz : kvs.length ≤ sizeLine) :
    wpAny (model prog w) A (dictPut d (knd.hash k) key v) Q E s := by
  obtain ⟨o, es, ep, ho, hc, hd, hk, hp, hn⟩ := hm
  have hes : es.size ≤ sizeLine := by
    have e1 := hp.length
    have e2 : es.toList.length = es.size := by simp
    omega
  unfold dictPut
  refine wpAny_bind (wpAny_dictFind_of hkey ho hd hk ?_)
  have hidx : (es.findIdx? fun e => knd.is k e.key) = kvs.findIdx? fun kv => decide (kv.1 = k) := by
    rw [← hp.findIdx k]; obtain ⟨l⟩ := es; simp
  cases hi : es.findIdx? fun e => knd.is k e.key with
  | some i =>
    refine wpAny_updateDict ho hd (hQ _ ⟨_, _, ep, Heap.get?_update_self _ ho (Obj.isFreed_of_dict (Obj.data_mapDict hd _)), hc.mapDict _, Obj.data_mapDict hd _, hk.modify _ _, ?_, ?_⟩ (Heap.SameBut.update ..))
    · rw [stored, if_pos (any_of_findIdx_some (hidx ▸ hi))]
      have hl : (es.toList.findIdx? fun e => knd.is k e.key) = some i := by rw [← hi]; obtain ⟨l⟩ := es; simp
      have := hp.modify hn hl v
      obtain ⟨l⟩ := es
      simpa using this
    · rw [stored, if_pos (any_of_findIdx_some (hidx ▸ hi)), keys_map_store]; exact hn
  | none =>
    have hnot : k ∉ kvs.map (·.1) := not_mem_of_findIdx_none (hidx ▸ hi)
    have hany : ¬ (kvs.any fun kv => decide (kv.1 = k)) = true := by
      rw [List.any_eq_true]; rintro ⟨kv, hkv, he⟩
      exact hnot (List.mem_map.mpr ⟨kv, hkv, of_decide_eq_true he⟩)
    refine wpAny_updateDictKeys (hz := hes) ho hd (hQ _ ⟨_, _, ep + 1, Heap.get?_update_self _ ho (Obj.isFreed_of_dict (Obj.data_mapDictKeys hd _)), hc.mapDictKeys _, Obj.data_mapDictKeys hd _, hk.push hkey _, ?_, ?_⟩ (Heap.SameBut.update ..))
    · rw [stored, if_neg hany]
      have := hp.append hkey (knd.hash k) v
      obtain ⟨l⟩ := es
      simpa using this
    · rw [stored, if_neg hany, List.map_append, List.nodup_append]
      refine ⟨hn, by simp, ?_⟩
      intro a ha b hb
      simp only [List.map_cons, List.map_nil, List.mem_singleton] at hb
      subst hb
      exact fun e => hnot (e ▸ ha)
theorem stars_merge {d o : Addr} {kvs more : List (K × Value)} {Q : Unit → Shared → Prop} (hdo : d ≠ o) (hoS : (o == sysModules) = false) (hd : s.heap.DictOf knd d kvs) (ho : s.heap.DictOf knd o more)
    (hnr : ∀ k key, knd.is k key = true → ∀ a, key ≠ .ref a)
    (hQ : ∀ h', h'.DictOf knd d (merged kvs more) → h'.DictOf knd o more → Heap.SameBut d s.heap h' → Q () { s with heap := h' }) (hsz : kvs.length + more.length ≤ sizeLine) :
    wpAny (model prog w) A (mergeMapping d (.ref o) false) Q E s := by
  obtain ⟨od, esd, epd, hod, hcd, hdd, hkd, hpd, hnd⟩ := id hd
  obtain ⟨oo, eso, epo, hoo, hco, hdo', hko, hpo, hno⟩ := id ho
  have hlen : more.length = eso.size := by rw [← hpo.length]; simp
  unfold mergeMapping
  refine wpAny_bind (wpAny_isInstance ho.typeIs isSubtype_dict_dict ?_)
  dsimp only
  rw [if_pos rfl]
  refine wpAny_bind (wpAny_specialOf ho.typeIs F.slot_dict_iter.lookup ?_)
  refine wpAny_bind (wpAny_pure ?_)
  simp only [beq_self_eq_true]
  rw [if_neg (by rw [hoS]; exact Bool.false_ne_true)]
  have loop : wpAny (model prog w) A (do
      let l ← dictEntries o
      let epoch ← dictEpoch o
      forIn (List.range l.size) PUnit.unit fun i (_ : PUnit) => (do
          let l' ← dictEntries o
          match l'[i]? with
            | some e => do
              holding [e.key, e.val] (dictPut d e.hash e.key e.val)
              let ep' ← dictEpoch o
              if (ep' != epoch) = true then do
                  (unsupported "dict.changed-during-merge" : Sem PUnit)
                  pure (ForInStep.yield PUnit.unit)
                else pure (ForInStep.yield PUnit.unit)
            | _ => do
              (unsupported "dict.changed-during-merge" : Sem PUnit)
              pure (ForInStep.yield PUnit.unit) : Sem (ForInStep PUnit))
      pure ()) Q E s := by
    refine wpAny_bind (wpAny_dictEntries hoo hdo' ?_)
    refine wpAny_bind (wpAny_dictEpoch hoo hdo' ?_)
    refine wpAny_bind ?_
    refine wpAny_forIn_list _
      (fun rest _ s' => ∃ h' i, s' = { s with heap := h' } ∧ rest = List.range' i (eso.size - i) ∧ i ≤ eso.size ∧ h'.DictOf knd d (merged kvs (more.take i)) ∧ h'.get? o = some oo ∧ Heap.SameBut d s.heap h')
      _ ?_ ?_ _ _ ⟨s.heap, 0, rfl, by rw [List.range_eq_range']; simp, Nat.zero_le _, by simpa [merged] using hd, hoo, Heap.SameBut.refl _ _⟩
    · rintro x rest b s' ⟨h', i, rfl, hr, hi, hd', hoo', hs'⟩
      have hlt : i < eso.size := by
        rcases Nat.lt_or_ge i eso.size with h | h
        · exact h
        · rw [Nat.sub_eq_zero_of_le h] at hr; simp at hr
      obtain ⟨rfl, hrest⟩ : x = i ∧ rest = List.range' (i + 1) (eso.size - (i + 1)) := by
        have e : eso.size - i = (eso.size - (i + 1)) + 1 := by omega
        rw [e, List.range'_succ] at hr
        injection hr with h1 h2
        exact ⟨h1, h2⟩
      refine wpAny_bind (wpAny_dictEntries hoo' hdo' ?_)
      rw [Array.getElem?_eq_getElem hlt]
      obtain ⟨kv, hkv⟩ : ∃ kv, more[x]? = some kv := ⟨more[x]'(by rw [hlen]; exact hlt), List.getElem?_eq_getElem _⟩
      obtain ⟨k, v⟩ := kv
      obtain ⟨hkey, hval⟩ := hpo.get? (e := eso[x]) (by simp [hlt]) hkv
      obtain ⟨k', hkey', hhash⟩ := hko eso[x] (Array.getElem_mem hlt)
      obtain rfl : k' = k := knd.inj _ _ _ hkey' hkey
      show wpAny _ _ (holding [eso[x].key, eso[x].val] (dictPut d eso[x].hash eso[x].key eso[x].val) >>= _) _ _ _
      rw [hhash, hval]
      have hmx : (merged kvs (more.take x)).length ≤ sizeLine := by
        have e1 := merged_length_le kvs (more.take x)
        have e2 : (more.take x).length ≤ more.length := by rw [List.length_take]; omega
        omega
      refine wpAny_bind (wpAny_holding (stars_put (hsz := hmx) hkey hd' fun h'' hd'' hs'' => ?_))
      have hoo'' : h''.get? o = some oo := (hs''.2 o (Ne.symm hdo)).trans hoo'
      refine wpAny_bind (wpAny_dictEpoch hoo'' hdo' ?_)
      rw [if_neg (by simp)]
      exact wpAny_pure ⟨h'', x + 1, rfl, hrest, hlt, by rw [merged_take_succ kvs more x (k', v) hkv]; exact hd'', hoo'', hs'.trans hs''⟩
    · rintro b s' ⟨h', i, rfl, hr, hi, hd', hoo', hs'⟩
      have hin : i = eso.size := by
        rcases Nat.lt_or_ge i eso.size with h | h
        · have e : eso.size - i = (eso.size - (i + 1)) + 1 := by omega
          rw [e, List.range'_succ] at hr; exact nomatch hr
        · exact Nat.le_antisymm hi h
      refine wpAny_pure (hQ h' ?_ ⟨oo, eso, epo, hoo', hco, hdo', hko, hpo, hno⟩ hs')
      rw [hin, ← hlen, List.take_length] at hd'; exact hd'
  refine wpAny_bind (wpAny_dictEntries hod hdd ?_)
  split
  · refine wpAny_bind (wpAny_dictEntries hoo hdo' ?_)
    refine wpAny_bind ?_
    rw [← Array.forIn_toList]
    refine wpAny_forIn_list _ (fun rest _ s' => s' = s ∧ ∀ e ∈ rest, e ∈ eso) _ ?_ ?_ _ _ ⟨rfl, fun e he => by simpa using he⟩
    · rintro e rest b s' ⟨rfl, hm⟩
      obtain ⟨k, hkey, _⟩ := hko e (hm e List.mem_cons_self)
      have hn := hnr k e.key hkey
      have hy : ∀ y ∈ rest, y ∈ eso := fun y hy => hm y (List.mem_cons_of_mem _ hy)
      split
      · rename_i a ha
        exact absurd ha (hn a)
      · exact wpAny_pure ⟨rfl, hy⟩
    · rintro b s' ⟨rfl, _⟩
      exact loop
  · exact loop
/-- {**a, k: v} -/
theorem stars_display {a k v : Sem Value} {Q : Value → Shared → Prop} (hnr : ∀ k key, knd.is k key = true → ∀ a, key ≠ .ref a)
    (h : wpAny (model prog w) A a (fun m s1 => ∃ o more, m = .ref o ∧ (o == sysModules) = false ∧ s.heap.objs.size ≠ o ∧ s1.heap.DictOf knd s.heap.objs.size [] ∧ s1.heap.DictOf knd o more ∧ more.length ≤ 1000000 ∧
      ∀ h1, h1.DictOf knd s.heap.objs.size more → Heap.SameBut s.heap.objs.size s1.heap h1 →
        wpAny (model prog w) A (evalPairs [(k, v)]) (fun vs s2 => ∃ kvs more', Carries knd vs kvs ∧ kvs.length ≤ 15 ∧ more'.length ≤ 1000000 ∧ (h1.objs.size == sysModules) = false ∧ s2.heap.DictOf knd h1.objs.size [] ∧ s2.heap.DictOf knd s.heap.objs.size more' ∧
          ∀ h' h3 : Heap, h'.DictOf knd h1.objs.size (merged [] kvs) → Heap.SameBut h1.objs.size s2.heap h' → h3.DictOf knd s.heap.objs.size (merged more' (merged [] kvs)) → Heap.SameBut s.heap.objs.size h' h3 → Q (.ref s.heap.objs.size) { s2 with heap := h3, toks := s2.toks + vs.length })
        E { s1 with heap := h1.push { cls := .type "dict", data := .dict #[] } })
      E { s with heap := s.heap.push { cls := .type "dict", data := .dict #[] } }) :
    wpAny (model prog w) A (dictDisplay [(none, a), (some k, v)]) Q E s := by
  unfold dictDisplay
  dsimp only
  simp only [List.forIn_cons, List.forIn_nil]
  simp only [List.isEmpty_nil, if_true, pure_bind, bind_assoc, List.nil_append]
  refine wpAny_bind (wpAny_alloc ?_)
  refine wpAny_bind (wpAny_holding (wpAny_mono h (fun m s1 h1 => ?_) fun _ _ e => e))
  obtain ⟨o, more, rfl, hoS, hdo, hd, ho, hl, hq⟩ := h1
  refine wpAny_bind (wpAny_onRaise (wpAny_tryCatch (wpAny_onRaise (wpAny_holding ?_))))
  refine stars_merge (knd := knd) hdo hoS hd ho hnr (fun h1 hd1 ho1 hs1 => ?_) (by rw [List.length_nil, sizeLine_eq]; omega)
  rw [merged_nil_of_nodup more (let ⟨_, _, _, _, _, _, _, _, z⟩ := ho; z)] at hd1
  have q := hq h1 hd1 hs1
  simp only [pure_bind, List.length_cons, List.length_nil, show ((0 + 1 : Nat) == 17) = false from rfl, Bool.false_eq_true, if_false, List.isEmpty_cons]
  refine wpAny_bind (wpAny_bind (wpAny_holding ?_))
  refine wpAny_subDict (knd := knd) (by simp) (wpAny_mono q (fun vs s2 h2 => ?_) fun _ _ e => e)
  obtain ⟨kvs, more', hc, hk, hl', hsm, he, hd2, hq2⟩ := h2
  refine ⟨kvs, hc, he, fun h' hd' hs' => ?_⟩
  have hlt : s.heap.objs.size < h1.objs.size := by
    obtain ⟨z, _, _, hz, _⟩ := hd1
    exact Heap.lt_size hz
  have hne : s.heap.objs.size ≠ h1.objs.size := Nat.ne_of_lt hlt
  have hd3 := hd2.sameBut hs' hne
  refine wpAny_bind (wpAny_onRaise (wpAny_holding ?_))
  have hml := merged_length_le ([] : List (K × Value)) kvs
  rw [List.length_nil] at hml
  refine stars_merge (knd := knd) hne hsm hd3 hd' hnr (fun h3 hd4 _ hs3 => ?_) (by rw [sizeLine_eq]; omega)
  refine wpAny_pure (wpAny_pure (hq2 h' h3 hd' hs' hd4 hs3))
end
end PySem

/-! The data layer, M7: {**a, k: v}; dict(d); repr. -/
namespace DL
open PySem L2 PyProof.Rows
theorem mix_noref {P : Program} {w : World} (k : Key) (key : Value) (h : (mixKind P w).is k key = true) (a : Addr) : key ≠ .ref a := by
  intro e
  subst e
  cases k <;> cases h
/-- {**a, k: v}: p the new dict, q another that is made on the way -/
def tStars (ta tk tv : TE) : TE := fun σ H Q => ∀ p, H p = none → ta σ (upd H p (.dK [])) fun x H1 => ∃ o kvs, x = .ref o ∧ p ≠ o ∧ RdD H1 o kvs ∧ H1 p = some (.dK []) ∧ kvs.length ≤ 1000000 ∧
  ∀ q, H1 q = none → tk σ (upd (upd H1 p (.dK kvs)) q (.dK [])) fun kx H2 => tv σ H2 fun vx H3 => ∃ kvs', H3 p = some (.dK kvs') ∧ kvs'.length ≤ 1000000 ∧ H3 q = some (.dK []) ∧ ∃ k, kx = kV k ∧ Q (.ref p) (upd (upd H3 q (.dK [(k, vx)])) p (.dK (putK kvs' k vx)))
section
variable {X : Cx} {a k v : Expr} {ta tk tv : TE} {pos : Pos}
theorem pe_stars (ha : PE X a ta) (hk : PE X k tk) (hv : PE X v tv) : PE X (.Dict [none, some k] [a, v] pos) (tStars ta tk tv) := by
  refine ⟨fun pins s σ H Q I q => ?_⟩
  rw [arm_eval_Dict]
  refine wpAny_bind (wpAny_standAt ?_)
  have hn := I.hok.fresh (Nat.le_refl s.heap.objs.size)
  have I1 := I.laid (a := s.heap.objs.size) (o := .dK []) (h' := s.heap.push { cls := .type "dict", data := .dict #[] }) (t' := s.toks) (fun _ _ q => Heap.get?_push_of_some _ q) (Nat.le_refl _) (dk_empty s.heap I.big)
  show wpAny _ _ (dictDisplay [(none, do let x ← eval a X.env; standAt pos; pure x), (some (eval k X.env), do let x ← eval v X.env; standAt pos; pure x)]) _ _ s
  refine stars_display (knd := mixKind X.prog X.w) mix_noref ?_
  refine wpAny_bind (thn (ha.run pins _ σ _ _ I1 (q _ hn)) fun u s1 ⟨x, H1, I2, rx, o, kvs, ex, hpo, hd, he, hl, q2⟩ => ?_)
  refine wpAny_bind (wpAny_standAt (wpAny_pure ?_))
  subst ex
  cases (show u = Value.ref o from rx)
  obtain ⟨z, lo, vs, rel, dd⟩ := dk_rd I2.hok hd
  obtain ⟨z0, lo0, vs0, r0, dd0⟩ := dk_of I2.hok he
  cases r0
  refine ⟨o, vs, rfl, lo, hpo, dd0, dd, by rw [← rel.length]; exact hl, fun h1 hd1 hs1 => ?_⟩
  have he1 : ∃ q, h1.get? s.heap.objs.size = some q := let ⟨q, _, _, hq, _⟩ := hd1; ⟨q, hq⟩
  have I3 := d_write (t' := s1.toks) I2 (by rw [he]; exact True.intro) hs1 he1 (dk_new z lo0 rel hd1)
  have hn3 := I3.hok.fresh (Nat.le_refl h1.objs.size)
  have hn1 : H1 h1.objs.size = none := by
    have hne : h1.objs.size ≠ s.heap.objs.size := by
      obtain ⟨z, hz⟩ := he1
      exact Ne.symm (Nat.ne_of_lt (Heap.lt_size hz))
    rw [upd_ne hne] at hn3
    exact hn3
  have I4 := I3.laid (a := h1.objs.size) (o := .dK []) (h' := h1.push { cls := .type "dict", data := .dict #[] }) (t' := s1.toks) (fun _ _ q => Heap.get?_push_of_some _ q) (Nat.le_refl _) (dk_empty h1 I3.big)
  have pt : [(eval k X.env, do let x ← eval v X.env; standAt pos; pure x)] = pairTrees [some k] [v] X.env pos := rfl
  rw [pt]
  refine pairTrees_cons_walk (thn (hk.run pins _ σ _ _ I4 (q2 _ hn1)) fun uk s3 ⟨kx, H2, I5, rk, q3⟩ => thn (hv.run pins s3 σ H2 _ I5 q3) fun uv s4 ⟨vx, H3, I6, rv, kvs', hp3, hl3, hq3, key, ekx, q4⟩ => pairTrees_nil_walk ?_)
  subst ekx
  obtain ⟨z5, lo5, vs5, r5, dd5⟩ := dk_of I6.hok hp3
  obtain ⟨z6, lo6, vs6, r6, dd6⟩ := dk_of I6.hok hq3
  cases r6
  have lv5 : vs5.length ≤ 1000000 := by rw [← r5.length]; exact hl3
  refine ⟨[(key, uv)], vs5, ⟨kV_is rk, rfl, True.intro⟩, by simp, lv5, lo6, dd6, dd5, fun h' h3 hd' hs' hd3 hs3 => ?_⟩
  have hpq : s.heap.objs.size ≠ h1.objs.size := by
    obtain ⟨z, hz⟩ := he1
    exact Nat.ne_of_lt (Heap.lt_size hz)
  have em : merged ([] : List (Key × Value)) [(key, uv)] = [(key, uv)] := rfl
  rw [em] at hd' hd3
  have rq : KV [(key, vx)] [(key, uv)] := .cons ⟨rfl, rv⟩ .nil
  have heq : ∃ q, h'.get? h1.objs.size = some q := let ⟨q, _, _, hq, _⟩ := hd'; ⟨q, hq⟩
  have I7 := d_write (t' := s4.toks) I6 (by rw [hq3]; exact True.intro) hs' heq (dk_new (kvs := [(key, vx)]) (by rw [sizeLine_eq]; simp) lo6 rq hd')
  have hep : ∃ q, h3.get? s.heap.objs.size = some q := let ⟨q, _, _, hq, _⟩ := hd3; ⟨q, hq⟩
  have rp : KV (putK kvs' key vx) (merged vs5 [(key, uv)]) := r5.put key rv
  have hlp := length_putK kvs' key vx
  have I8 := d_write (t' := s4.toks + 1) (s := { s4 with heap := h', toks := s4.toks }) (ob := .dK (putK kvs' key vx)) I7 (by rw [upd_ne hpq, hp3]; exact True.intro) hs3 hep (dk_new (by rw [sizeLine_eq]; omega) lo5 rp hd3)
  exact ⟨.ref s.heap.objs.size, _, I8, rfl, q4⟩
end
end DL

/-! The data layer, M8: {**a, k: v} as a reading. -/
namespace DL
open PySem L2 PyProof.Rows
def notLoc (d : D) (n : Nat) : Bool := match d with
  | .loc j => decide (j ≠ n)
  | _ => true
def rStars (fa fk fv : RE) : RE := fun δ μ => (fa δ (μ ++ [.dct [] []])).bind fun d μ1 => match d.view μ1, μ1[μ.length]? with
  | .dct ks xs, some (.dct [] []) => if notLoc d μ.length = true ∧ ks.length ≤ 1000000 then
      (fk δ (μ1.set μ.length (.dct ks xs) ++ [.dct [] []])).bind fun kd μ2 => (fv δ μ2).bind fun vd μ3 => match kd.key, μ3[μ.length]?, μ3[μ1.length]? with
        | some k, some (.dct ks' xs'), some (.dct [] []) => if ks' = ks then .ok (.loc μ.length) ((μ3.set μ1.length (.dct [k] [vd])).set μ.length (.dct (putKs ks' k) (putXs ks' xs' k vd))) else .bad
        | _, _, _ => .bad
      else .bad
  | _, _ => .bad
section
variable {X : Cx} {W : WX} {a k v : Expr} {fa fk fv : RE} {pos : Pos}
theorem pd_stars (ha : PD X W a fa) (hk : PD X W k fk) (hv : PD X W v fv) : PD X W (.Dict [none, some k] [a, v] pos) (rStars fa fk fv) :=
  pe_weak (pe_stars ha hk hv) fun σ H Q ⟨γ, α, F, μ, δ, w, s, q⟩ p hp => by
    have wn : Wd X.K γ (α ++ [p]) F (upd H p (.dK [])) (μ ++ [.dct [] []]) := w.new hp ⟨[], upd_same, rfl, .nil⟩
    have sn := s.mono (List.prefix_append α [p]) (Same.refl F)
    have fp : F p = none := w.sub.free hp
    have q0 : Fin X.K γ (α ++ [p]) F (rStars fa fk fv δ μ) (okD X.K Q) (fun c dd H' => W c dd σ H') := Fin.up (List.prefix_append _ _) (Same.refl F) q
    unfold rStars at q0
    refine tD_go wn sn q0 fun d μ1 α1 F1 H1 x p1 e1 w1 s1 hx q1 => ?_
    have ap : α1[μ.length]? = some p := pre_get p1 (w.newAt p)
    have vw := w1.view hx
    split at q1
    · rename_i ks xs hd ho
      rw [hd] at vw
      obtain ⟨o, kvs, rfl, hro, rfl, lx⟩ := vw
      split at q1
      · rename_i c
        obtain ⟨c1, c2⟩ := c
        obtain ⟨kvs0, hk0, hk1, hk2⟩ := w1.obj μ.length p _ ap ho
        have e0 : kvs0 = [] := by simpa using hk1
        subst e0
        have f1p : F1 p = none := w1.apart μ.length p _ ap ho (by intro z; cases z)
        have hpo : p ≠ o := by
          rintro rfl
          cases hx with
          | loc hj =>
            rename_i j
            have := w1.inj j μ.length p hj ap
            subst this
            simp [notLoc] at c1
          | dct hz _ _ => obtain ⟨o', hz⟩ := hz; rw [f1p] at hz; cases hz
          | _ => cases hd
        refine ⟨o, kvs, rfl, hpo, hro, hk0, by simpa using c2, fun qa hqa => ?_⟩
        have w2 : Wd X.K γ α1 F1 (upd H1 p (.dK kvs)) (μ1.set μ.length (.dct (kvs.map (·.1)) xs)) := w1.put ap ho (by intro z; cases z) ⟨kvs, upd_same, rfl, lx⟩
        have hqp : qa ≠ p := by
          rintro rfl
          rw [hqa] at hk0
          cases hk0
        have hqa2 : upd H1 p (.dK kvs) qa = none := by rw [upd_ne hqp]; exact hqa
        have w3 : Wd X.K γ (α1 ++ [qa]) F1 (upd (upd H1 p (.dK kvs)) qa (.dK [])) (μ1.set μ.length (.dct (kvs.map (·.1)) xs) ++ [.dct [] []]) := w2.new hqa2 ⟨[], upd_same, rfl, .nil⟩
        have s3 := s1.mono (List.prefix_append α1 [qa]) (Same.refl F1)
        have q2 := Fin.up (List.prefix_append α1 [qa]) (Same.refl F1) q1
        refine tD_go w3 s3 q2 fun kd μ2 α2 F2 H2 kx p2 e2 w4 s4 hkx q3 => tD_go w4 s4 q3 fun vd μ3 α3 F3 H3 vx p3 e3 w5 s5 hvx q4 => ?_
        have len1 : (μ1.set μ.length (.dct (kvs.map (·.1)) xs)).length = μ1.length := List.length_set
        have ap3 : α3[μ.length]? = some p := pre_get p3 (pre_get p2 (pre_get (List.prefix_append α1 [qa]) ap))
        have aq3 : α3[μ1.length]? = some qa := pre_get p3 (pre_get p2 (by have := w2.newAt qa; rw [len1] at this; exact this))
        split at q4
        · rename_i k ks' xs' hkd hop hoq
          split at q4
          · rename_i hks
            subst hks
            obtain ⟨kvs3, g1, g2, g3⟩ := w5.obj μ.length p _ ap3 hop
            obtain ⟨kvsq, g4, g5, g6⟩ := w5.obj μ1.length qa _ aq3 hoq
            have e0 : kvsq = [] := by simpa using g5
            subst e0
            have hpq : p ≠ qa := Ne.symm hqp
            have hl3 : kvs3.length ≤ 1000000 := by
              have e1 : kvs3.length = (kvs.map (·.1)).length := by rw [← g2, List.length_map]
              rw [e1]
              exact c2
            have hpos : μ.length ≠ μ1.length := by
              have := (List.getElem?_eq_some_iff.mp ho).1
              omega
            have w6 : Wd X.K γ α3 F3 (upd H3 qa (.dK [(k, vx)])) (μ3.set μ1.length (.dct [k] [vd])) := w5.put aq3 hoq (by intro z; cases z) ⟨[(k, vx)], upd_same, rfl, .cons hvx .nil⟩
            have hop6 : (μ3.set μ1.length (.dct [k] [vd]))[μ.length]? = some (.dct (kvs.map (·.1)) xs') := by
              rw [List.getElem?_set_ne (Ne.symm hpos)]
              exact hop
            have w7 := w6.put (o := .dK (putK kvs3 k vx)) (ob' := .dct (putKs (kvs.map (·.1)) k) (putXs (kvs.map (·.1)) xs' k vd)) ap3 hop6 (by intro z; cases z) ⟨putK kvs3 k vx, upd_same, by rw [← g2]; exact putK_keys, by rw [← g2]; exact putK_vals g3 hvx⟩
            exact ⟨kvs3, g1, hl3, g4, k, key_kV (hkx.mono p3 e3) hkd, q4 α3 F3 _ (List.prefix_refl _) (Same.refl F3) w7 _ (.loc ap3)⟩
          · exact q4.elim
        · exact q4.elim
      · exact q1.elim
    · exact q1.elim
end
end DL

/-! The data layer, M9: own methods, dict(d), repr of a text. -/
namespace DL
open PySem L2 PyProof.Rows
/-! ### o.m(..), m a def of o's class -/
def tMethAt (C : Addr) (m : Str) (sp : Sp) (E : L2.St → XK) (ta : TE) (t : TA) : TE := fun σ H Q => ta σ H fun x H1 => ∃ a dx fs, x = .ref a ∧ H1 a = some (.ins C dx fs) ∧ fs.lookup m = none ∧
  t σ H1 fun vs H2 => sp (x :: vs) H2 Q (E σ)
section
variable {X : Cx} {CX : CXT} {k : Nat} {C f : Addr} {fd : FuncData} {ps : List Str} {sp : Sp} {E : L2.St → XK} {m : Str} {o e : Expr} {es : List Expr} {ta : TE} {t : TA} {apos pos : Pos}
theorem pe_methAt {pl : Sem Bool} (he : PE X o ta) (c : Cls X.K C) (hm : Meth X.K C m f) (F : FnOk X.prog X.w X.K X.mg X.base CX k f fd ps sp) (hr : Room k X.A) (hb : Binds X.K fd ps []) (hx : ∀ σ, PassesAt CX X σ (E σ)) (ha : PA X (e :: es) t)
    (hst : starEach (e :: es) X.env = (false, eval e X.env) :: starEach es X.env := by rfl) (hpl : (backTo pos (starEach es X.env)).any (·.1) = false := by rfl)
    (ht : eval (.Call (.Attribute o m apos) (e :: es) [] pos) X.env = (do
      let ov ← eval o X.env
      standAt apos.atName
      let (f, first) ← holding [ov] (getMethod ov m pl)
      callWith pos f first (backTo pos (starEach (e :: es) X.env)) (backToKw pos (keywordEach [] X.env))) := by rfl) :
    PE X (.Call (.Attribute o m apos) (e :: es) [] pos) (tMethAt C m sp E ta t) := by
  refine ⟨fun pins s σ H Q I h => ?_⟩
  refine PySem.W.methodCall_KW (pl := pl) (thn (he.run pins s σ H _ I h) fun u s1 ⟨x, H1, I1, rx, a, dx, fs, ex, ea, l, q⟩ => ?_) ht
  subst ex
  obtain rfl : u = Value.ref a := rx
  refine getmeth_ok I1 ea c hm l ?_
  refine PySem.W.callWith_K (first := [.ref a]) (h₀ := X.base) I.ok.mod.kin hm.kp (thn (ha.run pos pins s1 σ H1 _ I1 q) fun us s2 ⟨vs, H2, I2, r, q2⟩ => ⟨I2.kIn, ?_⟩) hst hpl
  exact run_fnSD (us := .ref a :: us) (vs := .ref a :: vs) (dvs := []) F hr hb .nil (hx σ) I2 (.cons rfl r) (by rw [List.append_nil]; exact q2)
theorem pe_methAt0 {pl : Sem Bool} (he : PE X o ta) (c : Cls X.K C) (hm : Meth X.K C m f) (F : FnOk X.prog X.w X.K X.mg X.base CX k f fd ps sp) (hr : Room k X.A) (hb : Binds X.K fd ps []) (hx : ∀ σ, PassesAt CX X σ (E σ))
    (ht : eval (.Call (.Attribute o m apos) [] [] pos) X.env = (do
      let ov ← eval o X.env
      standAt apos.atName
      let (f, first) ← holding [ov] (getMethod ov m pl)
      callWith pos f first (backTo pos (starEach [] X.env)) (backToKw pos (keywordEach [] X.env))) := by rfl) :
    PE X (.Call (.Attribute o m apos) [] [] pos) (tMethAt C m sp E ta fun _ H Q => Q [] H) := by
  refine ⟨fun pins s σ H Q I h => ?_⟩
  refine PySem.W.methodCall_KW (pl := pl) (thn (he.run pins s σ H _ I h) fun u s1 ⟨x, H1, I1, rx, a, dx, fs, ex, ea, l, q⟩ => ?_) ht
  subst ex
  obtain rfl : u = Value.ref a := rx
  refine getmeth_ok I1 ea c hm l ?_
  exact PySem.W.callWith_K0 (first := [.ref a]) I1.kIn hm.kp (run_fnSD (us := [.ref a]) (vs := [.ref a]) (dvs := []) F hr hb .nil (hx σ) I1 (.cons rfl .nil) q)
end
/-- a method of the class C, kept by contract; n arguments behind the object -/
structure Cmt (P : Program) (w : World) (K : PySem.W.Frag) (mg : Str → Option Value) (base : Heap) (k : Nat) (C : Addr) (m : Str) (n : Nat) (ct : Ct) : Prop where
  ex : ∃ (f : Addr) (fd : FuncData) (ps : List Str), ps.length = n + 1 ∧ FnOk P w K mg base (L2.CX P w) k f fd ps (spD K (n + 1) ct) ∧ Cls K C ∧ Meth K C m f ∧ Binds K fd ps []
def rMeth (C : Addr) (m : Str) (n : Nat) (ct : Ct) (fo : RE) (fs : RA) : RE := fun δ μ => (fo δ μ).bind fun d μ1 => match d.view μ1 with
  | .ins C1 gs _ => if C1 = C ∧ gs.any (fun g => decide (g = m)) = false then (fs δ μ1).bind fun ds μ2 => if ds.length = n then ct (d :: ds) μ2 else .bad else .bad
  | _ => .bad
theorem lookup_no {m : Str} : ∀ {fv : List (Str × V)}, ((fv.map (·.1)).any fun g => decide (g = m)) = false → fv.lookup m = none
  | [], _ => rfl
  | (g, v) :: r, h => by
    rw [List.map_cons, List.any_cons, Bool.or_eq_false_iff, decide_eq_false_iff_not] at h
    have : (m == g) = false := beq_eq_false_iff_ne.mpr fun e => h.1 e.symm
    rw [List.lookup_cons, this]
    exact lookup_no h.2
section
variable {X : Cx} {W : WX} {k j n : Nat} {C : Addr} {m : Str} {ct : Ct} {o e : Expr} {es : List Expr} {fo : RE} {fs : RA} {apos pos : Pos}
theorem pd_meth {pl : Sem Bool} (c : Cmt X.prog X.w X.K X.mg X.base k C m n ct) (g : Good X W j) (ho : PD X W o fo) (ha : PDA X W (e :: es) fs) (hk : k ≤ j := by decide)
    (hst : starEach (e :: es) X.env = (false, eval e X.env) :: starEach es X.env := by rfl) (hpl : (backTo pos (starEach es X.env)).any (·.1) = false := by rfl)
    (ht : eval (.Call (.Attribute o m apos) (e :: es) [] pos) X.env = (do
      let ov ← eval o X.env
      standAt apos.atName
      let (f, first) ← holding [ov] (getMethod ov m pl)
      callWith pos f first (backTo pos (starEach (e :: es) X.env)) (backToKw pos (keywordEach [] X.env))) := by rfl) : PD X W (.Call (.Attribute o m apos) (e :: es) [] pos) (rMeth C m n ct fo fs) := by
  obtain ⟨f, fd, ps, hn, F, hc, hm, hb⟩ := c.ex
  refine pe_weak (pe_methAt ho hc hm F (g.hr.mono hk) hb (fun σ => passAt g.tk σ) ha hst hpl ht) fun σ H Q ⟨γ, α, F0, μ, δ, w, s, q⟩ => tD_go w s q fun d μ1 α1 F1 H1 v p1 e1 w1 s1 hv q1 => ?_
  have vw := w1.view hv
  cases hd : d.view μ1 with
  | ins C1 gs xs =>
    rw [hd] at q1 vw
    simp only at q1
    split at q1
    · rename_i hC
      obtain ⟨rfl, hC2⟩ := hC
      obtain ⟨a, dx, fv, rfl, h1, rfl, _⟩ := vw
      refine ⟨a, dx, fv, rfl, h1, lookup_no hC2, ?_⟩
      refine tDA_go w1 s1 q1 fun ds μ2 α2 F2 H2 vs p2 e2 w2 s2 hvs q2 => ?_
      split at q2
      · rename_i hl
        exact ⟨by rw [List.length_cons, hvs.length, hl], γ, α2, F2, μ2, d :: ds, w2, .cons (hv.mono p2 e2) hvs, q2⟩
      · exact q2.elim
    · exact q1.elim
  | _ => rw [hd] at q1; exact q1.elim
theorem pd_meth0 {pl : Sem Bool} (c : Cmt X.prog X.w X.K X.mg X.base k C m 0 ct) (g : Good X W j) (ho : PD X W o fo) (hk : k ≤ j := by decide)
    (ht : eval (.Call (.Attribute o m apos) [] [] pos) X.env = (do
      let ov ← eval o X.env
      standAt apos.atName
      let (f, first) ← holding [ov] (getMethod ov m pl)
      callWith pos f first (backTo pos (starEach [] X.env)) (backToKw pos (keywordEach [] X.env))) := by rfl) : PD X W (.Call (.Attribute o m apos) [] [] pos) (rMeth C m 0 ct fo rNil) := by
  obtain ⟨f, fd, ps, hn, F, hc, hm, hb⟩ := c.ex
  refine pe_weak (pe_methAt0 ho hc hm F (g.hr.mono hk) hb (fun σ => passAt g.tk σ) ht) fun σ H Q ⟨γ, α, F0, μ, δ, w, s, q⟩ => tD_go w s q fun d μ1 α1 F1 H1 v p1 e1 w1 s1 hv q1 => ?_
  have vw := w1.view hv
  cases hd : d.view μ1 with
  | ins C1 gs xs =>
    rw [hd] at q1 vw
    simp only at q1
    split at q1
    · rename_i hC
      obtain ⟨rfl, hC2⟩ := hC
      obtain ⟨a, dx, fv, rfl, h1, rfl, _⟩ := vw
      exact ⟨a, dx, fv, rfl, h1, lookup_no hC2, rfl, γ, α1, F1, μ1, [d], w1, .cons hv .nil, q1⟩
    · exact q1.elim
  | _ => rw [hd] at q1; exact q1.elim
end
/-- a method's def stands in its class -/
structure Dm (K : PySem.W.Frag) (m qm : Str) (st : Stmt) (C : Addr) (ps : List Str) : Prop where
  ex : ∃ (f : Addr) (fd : FuncData), Fun K m qm st f fd ∧ Binds K fd ps [] ∧ Cls K C ∧ Meth K C m f
theorem Dm.cmt {P : Program} {w : World} {K : PySem.W.Frag} {mg : Str → Option Value} {base : Heap} {m qm : Str} {st : Stmt} {ps N : List Str} {k n : Nat} {ct : Ct} {fb : RS} {C : Addr} (d : Dm K m qm st C ps) (S : FnScope N ps (defScope st)) (b : Body P w K mg base qm st N k fb) (c : Covs N ps ct fb) (hn : ps.length = n + 1 := by rfl) (hnp : ps.length ≤ N.length := by decide) : Cmt P w K mg base (k + 1) C m n ct := by
  obtain ⟨f, fd, F, hb, h1, h2⟩ := d.ex
  exact ⟨f, fd, ps, hn, by have q := fn_cal F S hnp (b f) c; rw [hn] at q; exact q, h1, h2, hb⟩
/-! ### dict(d) -/
def dictD : List D → List Ob → R D := fun ds μ => match ds with
  | [d] => match d.view μ with
    | .dct ks xs => .ok (.loc μ.length) (μ ++ [.dct ks xs])
    | _ => .bad
  | _ => .bad
def rDictA : List V → Hp → VK → Prop := fun xs H Q => ∃ (a : Addr) (kvs : List (Key × V)), xs = [.ref a] ∧ Rd H a (.dK kvs) ∧ ∀ p, H p = none → Q (.ref p) (upd H p (.dK kvs))
section
variable {X : Cx} {W : WX} {e : Expr} {fs : RA} {pos p : Pos} {k : Nat} {K : PySem.W.Frag}
theorem opn_dict : Opn K rDictA dictD := fun γ α F H μ vs ds Q E w hv q => by
  unfold dictD at q
  match ds, hv, q with
  | [], _, q => exact q.elim
  | _ :: _ :: _, _, q => exact q.elim
  | [d], hv, q =>
    obtain ⟨v, rfl, h⟩ := hv.one
    have vw := w.view h
    simp only at q
    cases hd : d.view μ with
    | dct ks xs =>
      rw [hd] at q vw
      obtain ⟨a, kvs, rfl, ha, rfl, l⟩ := vw
      refine ⟨a, kvs, rfl, ha, fun p hp => ?_⟩
      exact q (α ++ [p]) F _ (List.prefix_append _ _) (Same.refl F) (w.new hp ⟨kvs, upd_same, rfl, l.mono (List.prefix_append _ _) (Same.refl F)⟩) _ (.loc (w.newAt p))
    | _ => rw [hd] at q; exact q.elim
end
/-! ### repr(a text) -/
def reprD : List D → List Ob → R D := fun ds μ => match ds with
  | [.str x] => if (reprText x).length ≤ 16777216 then .ok (.str (reprText x)) μ else .bad
  | _ => .bad
def rRepr : List V → Hp → VK → Prop := fun xs H Q => ∃ x : Str, xs = [.str x] ∧ (reprText x).length ≤ sizeLine ∧ Q (.str (reprText x)) H
section
variable {X : Cx} {W : WX} {e : Expr} {fs : RA} {pos p : Pos} {k : Nat} {K : PySem.W.Frag}
theorem cr_repr : CallR X (.builtin "repr") rRepr := by
  intro pins s σ H xs us Q I r h
  obtain ⟨x, rfl, hz, q⟩ := h
  obtain ⟨u, rfl, t, rfl⟩ := vals1 r
  exact PySem.P.repr_of_str ⟨.str _, H, I.tok _, ⟨_, rfl⟩, q⟩ hz
theorem opn_repr : Opn K rRepr reprD := fun γ α F H μ vs ds Q E w hv q => by
  unfold reprD at q
  split at q
  · rename_i x
    obtain ⟨v, rfl, h⟩ := hv.one
    cases h
    split at q
    · rename_i hz
      exact ⟨x, rfl, by rw [sizeLine_eq]; exact hz, q α F H (List.prefix_refl _) (Same.refl F) w _ (.str _)⟩
    · exact q.elim
  · exact q.elim
end
end DL

/-! The data layer, M10: an own == asked of a built-in value; isinstance of such and an own class. -/
namespace DL
open PySem L2 PyProof.Rows
theorem sub_built {K : PySem.W.Frag} {C : Addr} {T : String} (h : T ∈ ["NoneType", "bool", "int", "str", "tuple", "list", "dict"]) : PySem.W.subIn K (.type T) (.ref C) = some false := by
  simp only [List.mem_cons, List.not_mem_nil, or_false] at h
  rcases h with rfl | rfl | rfl | rfl | rfl | rfl | rfl <;> rfl
theorem tyS_in {d : D} {T : String} (h : d.tyS = some T) : T ∈ ["NoneType", "bool", "int", "str", "tuple", "list", "dict"] := by
  cases d <;> first | (cases h; done) | (cases h; simp)
/-- isinstance(x, C): own ones and built-in values -/
def isKB (C : Addr) (d : D) : Option Bool := match d with
  | .ins C' _ _ => if C' = C then some true else none
  | d => match d.tyS with
    | some _ => some false
    | none => none
structure KisB (K : PySem.W.Frag) (C : Addr) : Prop where
  own : KisC K C
  cs : (PySem.W.clsIn K C).isSome = true
  ty : PySem.W.typeIn K (.ref C) = some (.type "type")
theorem kit_built {K : PySem.W.Frag} {C : Addr} {T : String} (k : KisB K C) (h : T ∈ ["NoneType", "bool", "int", "str", "tuple", "list", "dict"]) : PySem.W.kitOne K (.type T) (.ref C) = some false := by
  unfold PySem.W.kitOne
  rw [if_neg (by simp)]
  unfold PySem.W.kitCls
  show (if ((PySem.W.clsIn K C).isSome && PySem.W.typeIn K (.ref C) == some (.type "type")) = true then PySem.W.subIn K (.type T) (.ref C) else none) = some false
  have e : ((PySem.W.clsIn K C).isSome && PySem.W.typeIn K (.ref C) == some (.type "type")) = true := by rw [k.cs, k.ty]; rfl
  rw [if_pos e]
  exact sub_built h
theorem isiQ_KB {K : PySem.W.Frag} {C : Addr} (k : KisB K C) : IsiQ K (.ref C) (isKB C) := fun α F H v d b h e => by
  have c := k.own
  unfold isKB at e
  split at e
  · rename_i C' fs xs
    split at e
    · rename_i hC
      subst hC
      cases e
      obtain ⟨a, dx, fv, rfl, h1, _⟩ := h
      refine ⟨_, _, .own C', .base (.ins h1 c.cl c.ha c.hn c.ht c.hm), ?_⟩
      unfold PySem.W.kitOne
      rw [if_pos (beq_self_eq_true _)]
    · cases e
  · cases ht : d.tyS with
    | none => rw [ht] at e; cases e
    | some T =>
      rw [ht] at e
      cases e
      exact ⟨_, _, .own C, tyx_of h ht, kit_built k (tyS_in ht)⟩
/-! ### == by the text's own __eq__, the other side anything that is known -/
def rOwnL (K : PySem.W.Frag) (C : Addr) (sp : Sp) (E : XK) : R2 := fun x y H Q => ∃ a dx fs T, x = .ref a ∧ H a = some (.ins C dx fs) ∧ TyX K H y (.type T) ∧ T ∈ ["NoneType", "bool", "int", "str", "tuple", "list", "dict"] ∧ sp [.ref a, y] H (fun v H' => (∃ k, v = .bl k) ∧ Q v H') E
theorem op_ownL {X : Cx} {CX : CXT} {C f : Addr} {fd : FuncData} {ps : List Str} {sp : Sp} {E : XK} {n : Nat} (F : FnOk X.prog X.w X.K X.mg X.base CX n f fd ps sp) (hr : Room n X.A)
    (hs : PySem.W.findIn X.K (.ref C) "__eq__" = some (some (.ref f))) (hf : PySem.W.isFn X.K (.ref f) = true) (hb : Binds X.K fd ps []) (hx : Passes CX X E) : OpR X (compareOp .Eq) (rOwnL X.K C sp E) := by
  intro pins s σ H x y u v Q I rx ry d
  obtain ⟨a, dx, fs, T, e1, ha, ty, hT, hsp⟩ := d
  subst e1
  cases rx
  obtain ⟨mA, J, _⟩ := ins_get I.hok ha
  obtain ⟨od, J, _⟩ := J.look
  obtain ⟨m, hF⟩ := I.fr
  obtain ⟨P, kx, hP, _⟩ := kit_of I ry ty
  show wpAny (model X.prog X.w) X.A (richCompare .Eq (.ref a) v) (EP X pins σ Q) X.xe s
  refine PySem.W.cmp_K (op := .Eq) (tb := .type T) hr.units0 hF I.ok.mod.kin J (kx.ty _ _ I.kIn hP) (by unfold PySem.W.notFirst; rw [sub_built hT]; simp) hs hf ?_
  have hl := F.len _ _ _ _ hsp
  have r2 : Vals [V.ref a, y] [Value.ref a, v] := .cons rfl (.cons ry .nil)
  refine wpAny_call (codeAny_mono (F.run X.A X.stack s H ⟨[.ref a, v], []⟩ [.ref a, v] [.ref a, y] _ E hr I.env0 (by
    have := hb s [.ref a, v] I.kIn (by simpa using hl)
    simpa using this) r2 hsp) fun r s' hq => ?_)
  cases r with
  | error e => exact hx pins σ H s e s' I hq
  | ok fl =>
    cases fl with
    | ret w =>
      obtain ⟨z, H', I', rz, ⟨kk, ez⟩, ex⟩ := I.after hq
      subst ez
      cases rz
      exact ⟨.bl kk, H', I', rfl, ex⟩
    | next => exact False.elim hq
    | brk => exact False.elim hq
    | cont => exact False.elim hq
def ownL (C : Addr) (ct : Ct) (d e : D) (μ : List Ob) : R D := match d.view μ, (e.view μ).tyS with
  | .ins C1 _ _, some _ => if C1 = C then (match ct [d, e] μ with
    | .ok (.bl k) μ1 => .ok (.bl k) μ1
    | _ => .bad) else .bad
  | _, _ => .bad
theorem op2_ownL {K : PySem.W.Frag} {C : Addr} {ct : Ct} : Op2 K (rOwnL K C (spD K 2 ct) E0) (ownL C ct) := fun γ α F H μ x y d e Q E w hx hy q => by
  unfold ownL at q
  have v1 := w.view hx
  have v2 := w.view hy
  cases hd : d.view μ with
  | ins C1 fs xs =>
    rw [hd] at q v1
    cases ht : (e.view μ).tyS with
    | none => rw [ht] at q; exact q.elim
    | some T =>
      rw [ht] at q
      simp only at q
      split at q
      · rename_i hC
        subst hC
        obtain ⟨a, dx, fv, rfl, h1, _, _⟩ := v1
        refine ⟨a, dx, fv, T, rfl, h1, tyx_of v2 ht, tyS_in ht, rfl, γ, α, F, μ, [d, e], w, .cons hx (.cons hy .nil), ?_⟩
        cases hc : ct [d, e] μ with
        | bad => rw [hc] at q; exact q.elim
        | exc x μ1 => rw [hc] at q; exact q.elim
        | ok z μ1 =>
          rw [hc] at q
          cases z with
          | bl k => exact fun α' F' H' p e' w' v hv => ⟨⟨k, by cases hv; rfl⟩, q α' F' H' p e' w' v hv⟩
          | _ => exact q.elim
      · exact q.elim
  | _ => rw [hd] at q; exact q.elim
section
variable {X : Cx} {W : WX} {k j : Nat} {C : Addr} {ct : Ct} {a b e : Expr} {fa fb : RE} {fs : RA} {pos p : Pos}
theorem pdt_ownL (c : Ceq X.prog X.w X.K X.mg X.base k C ct) (g : Good X W j) (ha : PD X W a fa) (hb : PD X W b fb) (hk : k ≤ j := by decide) (hm : behindInMarks .Eq b = false := by rfl) : PDT X W (.Compare a [.Eq] [b] pos) (rT (rBin (ownL C ct) fa fb)) := by
  obtain ⟨f, fd, ps, hn, F, hs, hf, hbd⟩ := c.ex
  exact pdt_cmp (op_ownL F (g.hr.mono hk) hs hf hbd passL) op2_ownL hm ha hb
theorem pd_dictC (hm : X.mg "dict" = none) (ha : PDA X W [e] fs) (hg : Gl X "dict" := by rfl) (he : starEach [e] X.env = (false, eval e X.env) :: starEach [] X.env := by rfl) : PD X W (.Call (.Name "dict" p) [e] [] pos) (rCB dictD fs) :=
  pd_callT call_dictD opn_dict PyProof.Rows.boot_dict hm ha hg (by decide) (by decide) he rfl
theorem pd_reprC (hm : X.mg "repr" = none) (ha : PDA X W [e] fs) (hg : Gl X "repr" := by rfl) (he : starEach [e] X.env = (false, eval e X.env) :: starEach [] X.env := by rfl) : PD X W (.Call (.Name "repr" p) [e] [] pos) (rCB reprD fs) :=
  pd_callB cr_repr opn_repr PyProof.Rows.boot_repr hm ha hg (by decide) (by decide) he rfl
end
end DL

/-! The data layer, M11: a dict in a list stands still from here on. -/
namespace DL
open PySem L2
def tFrzAt (t : TE) : TE := fun σ H Q => t σ H fun v H1 => Q v H1 ∨ ∃ a kvs, H1 a = some (.dK kvs) ∧ ∀ o, Q v (upd H1 a (.frz o (.dK kvs)))
theorem pe_frzAt {X : Cx} {e : Expr} {t : TE} (h : PE X e t) : PE X e (tFrzAt t) := by
  refine ⟨fun pins s σ H Q I q => thn (h.run pins s σ H _ I q) fun u s1 ⟨v, H1, I1, r1, q1⟩ => ?_⟩
  rcases q1 with q1 | ⟨a, kvs, ha, q1⟩
  · exact ⟨v, H1, I1, r1, q1⟩
  have hok := I1.hok a _ ha
  have hd : ObjOk X.prog X.w H1 s1.heap a (.dK kvs) := hok
  obtain ⟨z, lo, vs, kk, o, es, ep, ho, hr⟩ := hd
  have hnew : ObjOk X.prog X.w (upd H1 a (.frz o (.dK kvs))) s1.heap a (.frz o (.dK kvs)) := ⟨ho, z, lo, vs, kk, o, es, ep, ho, hr⟩
  exact ⟨v, _, I1.write (t' := s1.toks) (x := a) (e := a) (o := .frz o (.dK kvs)) (by rw [ha]; exact True.intro) (.inl rfl) (fun _ _ _ q => q) ⟨o, ho⟩ hnew, r1, q1 o⟩
def rFrz1 (k : Nat) (f : RE) : RE := fun δ μ => (f δ μ).bind fun d μ1 => match d with
  | .loc i => match μ1[i]? with
    | some (.lst ds) => match ds[k]? with
      | some (.loc j) => match μ1[j]? with
        | some (.dct ks xs) => .ok (.loc i) ((μ1.set j .dead).set i (.lst (ds.set k (.dct ks xs))))
        | _ => .bad
      | _ => .ok (.loc i) μ1
    | _ => .bad
  | _ => .bad
theorem isL_set {K : PySem.W.Frag} {α : List Addr} {F : Hp} {v : V} {d : D} : ∀ {k : Nat} {vs : List V} {ds : List D}, IsL K α F vs ds → vs[k]? = some v → Is K α F v d → IsL K α F vs (ds.set k d)
  | 0, _ :: _, _ :: _, .cons h l, e, hd => by cases e; exact .cons hd l
  | k + 1, _ :: _, _ :: _, .cons h l, e, hd => .cons h (isL_set l (by simpa using e) hd)
  | _, [], _, .nil, e, _ => by simp at e
theorem pd_frz1 {X : Cx} {W : WX} {e : Expr} {f : RE} (n : Nat) (h : PD X W e f) : PD X W e (rFrz1 n f) := pe_weak (pe_frzAt h) fun σ H Q ⟨γ, α, F, μ, δ, w, s, q⟩ => tD_go w s q fun d μ1 α1 F1 H1 v p1 e1 w1 s1 hv q1 => by
  cases d with
  | loc i =>
    simp only at q1
    split at q1
    · rename_i ds hi
      split at q1
      · rename_i j hj
        split at q1
        · rename_i ks xs hm
          cases hv with
          | loc hb =>
            rename_i b
            obtain ⟨vs, h1, h2⟩ := w1.obj i b _ hb hi
            obtain ⟨u, hu, hud⟩ := h2.get hj
            cases hud with
            | loc ha =>
              rename_i a
              obtain ⟨kvs, g1, g2, g3⟩ := w1.obj j a _ ha hm
              refine .inr ⟨a, kvs, g1, fun o => ?_⟩
              have hn : F1 a = none := w1.apart j a _ ha hm (by intro z; cases z)
              have sF := same_new (o := HO.frz o (.dK kvs)) hn
              have w2 := w1.frz (o := .frz o (.dK kvs)) ha hm (by intro z; cases z)
              have hab : b ≠ a := by rintro rfl; rw [g1] at h1; cases h1
              have hij : j ≠ i := by rintro rfl; rw [hi] at hm; cases hm
              have hi2 : (μ1.set j .dead)[i]? = some (.lst ds) := by rw [List.getElem?_set_ne hij]; exact hi
              have hb2 : upd H1 a (.frz o (.dK kvs)) b = some (.lst vs) := by rw [upd_ne hab]; exact h1
              have l2 := isL_set (h2.mono (List.prefix_refl _) sF) hu (.dct ⟨o, upd_same⟩ g2 (g3.mono (List.prefix_refl _) sF))
              have w3 := w2.put (o := .lst vs) (ob' := .lst (ds.set n (.dct ks xs))) hb hi2 (by intro z; cases z) ⟨vs, upd_same, l2⟩
              rw [upd_id hb2] at w3
              exact q1 α1 _ _ (List.prefix_refl _) sF w3 _ (.loc hb)
        · exact q1.elim
      · exact .inl (q1 α1 F1 H1 (List.prefix_refl _) (Same.refl F1) w1 _ hv)
    · exact q1.elim
  | _ => exact q1.elim
end DL

/-! The data layer, M12: an object is made, its __init__ may raise. -/
namespace DL
open PySem L2
section
variable {X : Cx} {CX : CXT} {k : Nat} {f C : Addr} {fd : FuncData} {ps : List Str} {sp : Sp} {E : L2.St → XK} {x m : Str} {p pos apos : Pos} {e o : Expr} {es : List Expr} {ta : TE} {t : TA}
theorem run_makeS {pins : List (Addr × Obj)} {σ : St} {H : Hp} {s : Shared} {Q : VK} {us : List Value} {vs : List V} (M : Mk X.K C f) (F : FnOk X.prog X.w X.K X.mg X.base CX k f fd ps sp) (hr : Room (k + 1) X.A) (hb : Binds X.K fd ps [])
    (hx : PassesAt CX X σ (E σ)) (I : Inv X pins σ H s) (r : Vals vs us)
    (h : ∀ x dx, H x = none → H dx = none → dx ≠ x → sp (.ref x :: vs) (upd (upd H dx (.own x)) x (.ins C dx [])) (fun v H2 => v = .non ∧ Q (.ref x) H2) (E σ)) :
    wpAny (model X.prog X.w) X.A (call (.ref C) us) (EP X pins σ Q) X.xe s := by
  have hq := h (s.heap.objs.size + 1) s.heap.objs.size (I.hok.fresh (Nat.le_succ _)) (I.hok.fresh (Nat.le_refl _)) (Nat.ne_of_lt (Nat.lt_succ_self _))
  have I2 := Inv.made (C := C) I
  have r2 : Vals (V.ref (s.heap.objs.size + 1) :: vs) (Value.ref (s.heap.objs.size + 1) :: us) := .cons rfl r
  have hl : (Value.ref (s.heap.objs.size + 1) :: us ++ []).length = ps.length := by
    have e := r2.length
    rw [F.len _ _ _ _ hq] at e
    rw [List.append_nil]
    exact e.symm
  refine wpAny_call (make_map (f := f) I.kIn M.makes M.init (beq_iff_eq.mp M.fn) (codeAny_mono (F.run _ X.stack _ _ ⟨Value.ref (s.heap.objs.size + 1) :: us, []⟩ (Value.ref (s.heap.objs.size + 1) :: us) _ _ (E σ) (hr.make C us [])
    (I2.env0.make C us []) (by have := hb _ (Value.ref (s.heap.objs.size + 1) :: us) I2.kIn hl; rw [List.append_nil] at this; exact this) r2 hq) fun r s' hq' => ?_))
  cases r with
  | error e => exact hx pins _ _ e s' I2 hq'
  | ok fl =>
    cases fl with
    | ret u =>
      obtain ⟨v, H', I3, rv, ev, q3⟩ := I2.after hq'
      subst ev
      exact ⟨rv, ⟨V.ref (s.heap.objs.size + 1), H', I3, rfl, q3⟩⟩
    | next => exact False.elim hq'
    | brk => exact False.elim hq'
    | cont => exact False.elim hq'
def tMakeS (C : Addr) (sp : Sp) (E : L2.St → XK) (t : TA) : TE := fun σ H Q => t σ H fun vs H1 => ∀ x dx, H1 x = none → H1 dx = none → dx ≠ x →
  sp (.ref x :: vs) (upd (upd H1 dx (.own x)) x (.ins C dx [])) (fun v H2 => v = .non ∧ Q (.ref x) H2) (E σ)
theorem pe_makeS (M : Mk X.K C f) (F : FnOk X.prog X.w X.K X.mg X.base CX k f fd ps sp) (hr : Room (k + 1) X.A) (hg : Gl X x) (hm : X.mg x = some (.ref C)) (hb : Binds X.K fd ps []) (hx : ∀ σ, PassesAt CX X σ (E σ))
    (ha : PA X (e :: es) t) (hdb : (x == ("__debug__" : Str)) = false := by decide) (he : starEach (e :: es) X.env = (false, eval e X.env) :: starEach es X.env := by rfl) (hpl : (backTo pos (starEach es X.env)).any (·.1) = false := by rfl) :
    PE X (.Call (.Name x p) (e :: es) [] pos) (tMakeS C sp E t) := by
  refine ⟨fun pins s σ H Q I h => ?_⟩
  refine wpAny_Call_Name_kw (ld_glob I hg hm ?_ hdb)
  refine PySem.W.callWith_K (h₀ := X.base) I.ok.mod.kin M.kp (thn (ha.run pos pins s σ H _ I h) fun us s1 ⟨vs, H1, I1, r, q⟩ => ⟨I1.kIn, ?_⟩) he hpl
  exact run_makeS M F hr hb (hx σ) I1 r q
end
def rMakeX (C : Addr) (n : Nat) (ct : Ct) (fs : RA) : RE := fun δ μ => (fs δ μ).bind fun ds μ1 => if ds.length = n then (match ct (.loc μ1.length :: ds) (μ1 ++ [.ins C [] []]) with
  | .ok .non μ2 => (match μ2[μ1.length]? with
    | some (.ins C' fs xs) => .ok (.ins C' fs xs) (μ2.set μ1.length .dead)
    | _ => .bad)
  | .exc x μ2 => .exc x μ2
  | _ => .bad)
  else .bad
section
variable {X : Cx} {W : WX} {k j n : Nat} {x : Str} {ct : Ct} {C : Addr}
theorem pd_makeX {e : Expr} {es : List Expr} {fs : RA} {p pos : Pos} (c : Cml X.prog X.w X.K X.mg X.base k x C n ct) (g : Good X W j) (ha : PDA X W (e :: es) fs) (hk : k + 1 ≤ j := by decide) (hg : Gl X x := by rfl) (hdb : (x == ("__debug__" : Str)) = false := by decide)
    (he : starEach (e :: es) X.env = (false, eval e X.env) :: starEach es X.env := by rfl) (hpl : (backTo pos (starEach es X.env)).any (·.1) = false := by rfl)
    : PD X W (.Call (.Name x p) (e :: es) [] pos) (rMakeX C n ct fs) := by
  obtain ⟨f, fd, ps, hnn, M, F, hm, hb⟩ := c.ex
  refine pe_weak (pe_makeS M F (g.hr.mono hk) hg hm hb (fun σ => passAt g.tk σ) ha hdb he hpl) fun σ H Q ⟨γ, α, F, μ, δ, w, s, q⟩ => ?_
  refine tDA_go w s q fun ds μ1 α1 F1 H1 vs p1 e1 w1 s1 hv q1 => ?_
  intro a dx h1 h2 ne
  by_cases hl : ds.length = n
  · rw [if_pos hl] at q1
    have w2 := w1.mk2 (C := C) h1 h2 ne
    have px : α1 <+: α1 ++ [a] := List.prefix_append _ _
    refine ⟨by simp [hv.length, hl], γ, α1 ++ [a], F1, _, _, w2, .cons (.loc (w1.newAt a)) (hv.mono px (Same.refl F1)), ?_⟩
    cases hc : ct (.loc μ1.length :: ds) (μ1 ++ [.ins C [] []]) with
    | bad => rw [hc] at q1; exact q1.elim
    | exc x μ2 =>
      rw [hc] at q1
      exact Fin.up px (Same.refl F1) q1
    | ok d μ2 =>
      rw [hc] at q1
      intro α2 F2 H2 p2 e2 w3 v hvd
      cases d with
      | non =>
        cases hvd
        refine ⟨rfl, ?_⟩
        simp only at q1
        cases hm2 : μ2[μ1.length]? with
        | none => rw [hm2] at q1; exact q1.elim
        | some ob =>
          rw [hm2] at q1
          have hat : α2[μ1.length]? = some a := pre_get p2 (w1.newAt a)
          have hob := w3.obj _ a ob hat hm2
          cases ob with
          | ins C' fs xs =>
            simp only at q1
            obtain ⟨dx', fv, g1, g2, g3⟩ := hob
            have fa : F2 a = none := w3.apart _ a _ hat hm2 (by intro z; cases z)
            have w4 := w3.frz (o := .ins C' dx' fv) hat hm2 (by intro z; cases z)
            rw [upd_id g1] at w4
            exact q1 α2 _ H2 (px.trans p2) (e2.trans (same_new fa)) w4 _ (.ins upd_same g2 (g3.mono (List.prefix_refl _) (same_new fa)))
          | _ => exact q1.elim
      | _ => exact q1.elim
  · rw [if_neg hl] at q1; exact q1.elim
end
end DL

namespace LX
open PySem L2 DL
noncomputable section
theorem ne_of {K : PySem.W.Frag} {a c : Addr} (h1 : PySem.W.subIn K (.ref a) (.ref c) = some false) (h2 : PySem.W.subIn K (.ref c) (.ref c) = some true) : a ≠ c := fun e => by rw [e, h2] at h1; cases h1
def top (i : Nat) : Stmt := PySem.Challenge.pw_findstold_k01_books_refused.main.body.getD i (.Pass ⟨0, 0, 0, 0⟩)
structure Ad where
  (kBook cPARTS cPARTS_0 cPARTS_1 cPARTS_2 cPARTS_3 cPARTS_4 cPARTS_5 cWORDS kFindError kInvalidPrices kInvalidRule kInvalidWords : Addr) (ne_InvalidPrices_InvalidRule : kInvalidPrices ≠ kInvalidRule) (ne_InvalidPrices_InvalidWords : kInvalidPrices ≠ kInvalidWords) (ne_InvalidRule_InvalidWords : kInvalidRule ≠ kInvalidWords)
def d_PARTS (a : Ad) : D := .vv (.ref a.cPARTS)
def kv_PARTS (a : Ad) : List (Key × V) := [(.inr "counts", .ref a.cPARTS_0), (.inr "evening", .ref a.cPARTS_1), (.inr "lost", .ref a.cPARTS_2), (.inr "remembers", .ref a.cPARTS_3), (.inr "search", .ref a.cPARTS_4), (.inr "tells", .ref a.cPARTS_5)]
def xs_PARTS : List D := [.tup [.str "comes", .str "fits"], .tup [.str "looks", .str "sends"], .tup [.str "again", .str "noted"], .tup [.str "number", .str "price", .str "thing"], .tup [.str "forgets", .str "keeps"], .tup [.str "evening", .str "now"]]
def d_WORDS (a : Ad) : D := .tup [.str "anew", .str "lose", .str "number", .str "pause", .str "price", .str "search"]
abbrev s_xInvalidPrices : Stmt := inClass (top 2) 0
theorem xw_InvalidPrices (cc cda : Addr) : XiW ⟨"__init__", "InvalidPrices.__init__", defArgs s_xInvalidPrices, defBody s_xInvalidPrices, defScope s_xInvalidPrices, [(("__class__" : Str), cc)], cda⟩ ["self", "__class__"] ["self"] ((defBody s_xInvalidPrices).drop 1) := ⟨NdefX.nscope_by (sc := defScope s_xInvalidPrices) (by decide +kernel), ⟨_, _, _, _, _, _, _, _, _, rfl, fun _ _ => rfl⟩, ⟨_, rfl, rfl, rfl⟩, rfl, rfl, fun _ _ _ _ _ _ us hl => match us, hl with | [_], _ => rfl⟩
abbrev s_xInvalidRule : Stmt := inClass (top 3) 0
theorem xw_InvalidRule (cc cda : Addr) : XiW ⟨"__init__", "InvalidRule.__init__", defArgs s_xInvalidRule, defBody s_xInvalidRule, defScope s_xInvalidRule, [(("__class__" : Str), cc)], cda⟩ ["self", "part", "__class__"] ["self", "part"] ((defBody s_xInvalidRule).drop 1) := ⟨NdefX.nscope_by (sc := defScope s_xInvalidRule) (by decide +kernel), ⟨_, _, _, _, _, _, _, _, _, rfl, fun _ _ => rfl⟩, ⟨_, rfl, rfl, rfl⟩, rfl, rfl, fun _ _ _ _ _ _ us hl => match us, hl with | [_, _], _ => rfl⟩
abbrev s_xInvalidWords : Stmt := inClass (top 4) 0
theorem xw_InvalidWords (cc cda : Addr) : XiW ⟨"__init__", "InvalidWords.__init__", defArgs s_xInvalidWords, defBody s_xInvalidWords, defScope s_xInvalidWords, [(("__class__" : Str), cc)], cda⟩ ["self", "__class__"] ["self"] ((defBody s_xInvalidWords).drop 1) := ⟨NdefX.nscope_by (sc := defScope s_xInvalidWords) (by decide +kernel), ⟨_, _, _, _, _, _, _, _, _, rfl, fun _ _ => rfl⟩, ⟨_, rfl, rfl, rfl⟩, rfl, rfl, fun _ _ _ _ _ _ us hl => match us, hl with | [_], _ => rfl⟩
abbrev s_is_integer : Stmt := top 8
abbrev N_is_integer : List Str := ["thing", "low", "high"]
abbrev P_is_integer : List Str := ["thing", "low", "high"]
theorem sc_is_integer : FnScope N_is_integer P_is_integer (defScope s_is_integer) := ⟨rfl, rfl, rfl, by decide +kernel, rfl, by decide +kernel, by decide +kernel⟩
def r_is_integer (a : Ad) : RS := (rRet (rAndV (rCB (isiD (.ty "int") (isT "int")) (rCons (rVar 0) (rCons (rC (.vv (.ty "int"))) rNil))) (rAndV (rNotV (rCB (isiD (.ty "bool") (isT "bool")) (rCons (rVar 0) (rCons (rC (.vv (.ty "bool"))) rNil)))) (rChain leD leD (rVar 1) (rVar 0) (rVar 2)))))
def ct_is_integer (a : Ad) : Ct := ctT 0 (r_is_integer a)
abbrev s_is_word : Stmt := top 9
abbrev N_is_word : List Str := ["thing", "words"]
abbrev P_is_word : List Str := ["thing", "words"]
theorem sc_is_word : FnScope N_is_word P_is_word (defScope s_is_word) := ⟨rfl, rfl, rfl, by decide +kernel, rfl, by decide +kernel, by decide +kernel⟩
def r_is_word (a : Ad) : RS := (rRet (rAndV (rCB (isiD (.ty "str") (isT "str")) (rCons (rVar 0) (rCons (rC (.vv (.ty "str"))) rNil))) (rBin (inD false) (rVar 0) (rVar 1))))
def ct_is_word (a : Ad) : Ct := ctT 0 (r_is_word a)
abbrev s_check_rule : Stmt := top 10
abbrev N_check_rule : List Str := ["rule", "part", "words"]
abbrev P_check_rule : List Str := ["rule"]
theorem sc_check_rule : FnScope N_check_rule P_check_rule (defScope s_check_rule) := ⟨rfl, rfl, rfl, by decide +kernel, rfl, by decide +kernel, by decide +kernel⟩
def r_check_rule (a : Ad) : RS := (rSeq (rIfS (rOrT (rNotT (rT (rCB (isiD (.ty "dict") (isT "dict")) (rCons (rVar 0) (rCons (rC (.vv (.ty "dict"))) rNil))))) (rOrT (rT (rBin neD (rCB lenD (rCons (rVar 0) rNil)) (rCB (onP a.cPARTS fun μ => .ok (.int ((kv_PARTS a).length : Nat)) μ) (rCons (rC (d_PARTS a)) rNil)))) (rNotT (rT (rCB (allD false) (rCons (rLc (rItems (rVar 0)) (.nm 1) (([("part", 1)] : List (Str × Nat)).map (·.2)) rYes (rCall 2 (ct_is_word a) (rCons (rVar 1) (rCons (rCB (onP a.cPARTS fun μ => .ok (.lst (((kv_PARTS a).map (·.1)).map Key.d)) μ) (rCons (rC (d_PARTS a)) rNil)) rNil)))) rNil)))))) (rRaise a.kInvalidRule ["part"] (rCons (rC (.str "")) rNil)) (fun δ μ => .nx δ μ))
    (rFor (rP a.cPARTS (pairsP ((kv_PARTS a).map (·.1)) xs_PARTS) (rC (d_PARTS a))) (.tp [1, 2]) (rIfS (rNotT (rT (rCall 2 (ct_is_word a) (rCons (rBin getD (rVar 0) (rVar 1)) (rCons (rVar 2) rNil))))) (rRaise a.kInvalidRule ["part"] (rCons (rVar 1) rNil)) (fun δ μ => .nx δ μ))))
def ct_check_rule (a : Ad) : Ct := ctT 2 (r_check_rule a)
abbrev s_Book_init : Stmt := inClass (top 11) 0
abbrev N_Book_init : List Str := ["self", "prices", "rule", "words", "part", "word"]
abbrev P_Book_init : List Str := ["self", "prices", "rule", "words"]
theorem sc_Book_init : FnScope N_Book_init P_Book_init (defScope s_Book_init) := ⟨rfl, rfl, rfl, by decide +kernel, rfl, by decide +kernel, by decide +kernel⟩
def r_Book_init (a : Ad) : RS := (rSeq (rIfS (rNotT (rT (rCall 3 (ct_is_integer a) (rCons (rVar 1) (rCons (rC (.int 2)) (rCons (rC (.int 3)) rNil)))))) (rRaise a.kInvalidPrices [] rNil) (fun δ μ => .nx δ μ))
    (rSeq (rDrop (rCall 1 (ct_check_rule a) (rCons (rVar 2) rNil)))
    (rSeq (rIfS (rOrT (rNotT (rT (rCB (isiD (.ty "tuple") (isT "tuple")) (rCons (rVar 3) (rCons (rC (.vv (.ty "tuple"))) rNil))))) (rNotT (rT (rCB (allD false) (rCons (rLc (rItems (rVar 3)) (.nm 5) (([("word", 5)] : List (Str × Nat)).map (·.2)) rYes (rCall 2 (ct_is_word a) (rCons (rVar 5) (rCons (rC (d_WORDS a)) rNil)))) rNil))))) (rRaise a.kInvalidWords [] rNil) (fun δ μ => .nx δ μ))
    (rSeq (rIfS (rT (rBin neD (rLc (rItems (rC (d_WORDS a))) (.nm 5) (([("word", 5)] : List (Str × Nat)).map (·.2)) (rT (rBin (inD false) (rVar 5) (rVar 3))) (rVar 5)) (rCB (listD false) (rCons (rVar 3) rNil)))) (rRaise a.kInvalidWords [] rNil) (fun δ μ => .nx δ μ))
    (rSeq (rSetF a.kBook "highest" (rVar 0) (rVar 1))
    (rSeq (rSetF a.kBook "terms" (rVar 0) (rDc (rP a.cPARTS (((kv_PARTS a).map (·.1)).map Key.d) (rC (d_PARTS a))) (.nm 4) (([("part", 4)] : List (Str × Nat)).map (·.2)) rYes (rVar 4) (rBin getD (rVar 2) (rVar 4))))
    (rSetF a.kBook "kinds" (rVar 0) (rVar 3))))))))
def cm_Book (a : Ad) : Ct := ctT 2 (r_Book_init a)
abbrev s_Book_p_prices : Stmt := inClass (top 11) 1
abbrev N_Book_p_prices : List Str := ["self"]
abbrev P_Book_p_prices : List Str := ["self"]
theorem sc_Book_p_prices : FnScope N_Book_p_prices P_Book_p_prices (defScope s_Book_p_prices) := ⟨rfl, rfl, rfl, by decide +kernel, rfl, by decide +kernel, by decide +kernel⟩
def r_Book_p_prices (a : Ad) : RS := (rRet (rFld a.kBook "highest" (rVar 0)))
def cp_Book_prices (a : Ad) : Ct := ctT 0 (r_Book_p_prices a)
abbrev s_Book_p_rule : Stmt := inClass (top 11) 2
abbrev N_Book_p_rule : List Str := ["self"]
abbrev P_Book_p_rule : List Str := ["self"]
theorem sc_Book_p_rule : FnScope N_Book_p_rule P_Book_p_rule (defScope s_Book_p_rule) := ⟨rfl, rfl, rfl, by decide +kernel, rfl, by decide +kernel, by decide +kernel⟩
def r_Book_p_rule (a : Ad) : RS := (rRet (rFrz (rCB dictD (rCons (rFld a.kBook "terms" (rVar 0)) rNil))))
def cp_Book_rule (a : Ad) : Ct := ctT 0 (r_Book_p_rule a)
abbrev s_Book_p_words : Stmt := inClass (top 11) 3
abbrev N_Book_p_words : List Str := ["self"]
abbrev P_Book_p_words : List Str := ["self"]
theorem sc_Book_p_words : FnScope N_Book_p_words P_Book_p_words (defScope s_Book_p_words) := ⟨rfl, rfl, rfl, by decide +kernel, rfl, by decide +kernel, by decide +kernel⟩
def r_Book_p_words (a : Ad) : RS := (rRet (rFld a.kBook "kinds" (rVar 0)))
def cp_Book_words (a : Ad) : Ct := ctT 0 (r_Book_p_words a)
abbrev s_Book_t_changed : Stmt := inClass (top 11) 4
abbrev N_Book_t_changed : List Str := ["self", "part", "word"]
abbrev P_Book_t_changed : List Str := ["self", "part", "word"]
theorem sc_Book_t_changed : FnScope N_Book_t_changed P_Book_t_changed (defScope s_Book_t_changed) := ⟨rfl, rfl, rfl, by decide +kernel, rfl, by decide +kernel, by decide +kernel⟩
def r_Book_t_changed (a : Ad) : RS := (rSeq (rIfS (rNotT (rT (rCall 2 (ct_is_word a) (rCons (rVar 1) (rCons (rCB (onP a.cPARTS fun μ => .ok (.lst (((kv_PARTS a).map (·.1)).map Key.d)) μ) (rCons (rC (d_PARTS a)) rNil)) rNil))))) (rRaise a.kInvalidRule ["part"] (rCons (rC (.str "")) rNil)) (fun δ μ => .nx δ μ))
    (rRet (rMakeX a.kBook 3 (cm_Book a) (rCons (rFld a.kBook "highest" (rVar 0)) (rCons (rFrz (rStars (rFld a.kBook "terms" (rVar 0)) (rVar 1) (rVar 2))) (rCons (rFld a.kBook "kinds" (rVar 0)) rNil))))))
def cu_Book_changed (a : Ad) : Ct := ctT 0 (r_Book_t_changed a)
abbrev s_Book_eq : Stmt := inClass (top 11) 5
abbrev N_Book_eq : List Str := ["self", "other"]
abbrev P_Book_eq : List Str := ["self", "other"]
theorem sc_Book_eq : FnScope N_Book_eq P_Book_eq (defScope s_Book_eq) := ⟨rfl, rfl, rfl, by decide +kernel, rfl, by decide +kernel, by decide +kernel⟩
def r_Book_eq (a : Ad) : RS := (rSeq (rIfS (rNotT (rT (rCB (isiD (.ref a.kBook) (isKB a.kBook)) (rCons (rVar 1) (rCons (rC (.vv (.ref a.kBook))) rNil))))) (rRet (rC (.bl false))) (fun δ μ => .nx δ μ))
    (rRet (rBin eqG (rTup (rCons (rFld a.kBook "highest" (rVar 0)) (rCons (rFld a.kBook "terms" (rVar 0)) (rCons (rFld a.kBook "kinds" (rVar 0)) rNil)))) (rTup (rCons (rFld a.kBook "highest" (rVar 1)) (rCons (rFld a.kBook "terms" (rVar 1)) (rCons (rFld a.kBook "kinds" (rVar 1)) rNil)))))))
def cq_Book (a : Ad) : Ct := ctT 0 (r_Book_eq a)
abbrev s_law_mix : Stmt := top 13
abbrev N_law_mix : List Str := ["_law_script", "_law_seed", "_law_state", "_law_cell"]
abbrev P_law_mix : List Str := ["_law_script", "_law_seed"]
theorem sc_law_mix : FnScope N_law_mix P_law_mix (defScope s_law_mix) := ⟨rfl, rfl, rfl, by decide +kernel, rfl, by decide +kernel, by decide +kernel⟩
def r_law_mix (a : Ad) : RS := (rSeq (rSet 2 (rVar 1))
    (rSeq (rFor (rItems (rVar 0)) (.nm 3) (rSet 2 (rBin modD (rCB intD (rCons (rBin addD (rBin addD (rBin mulD (rVar 2) (rC (.int 48271))) (rBin modD (rCB intD (rCons (rVar 3) rNil)) (rC (.int 2147483629)))) (rC (.int 1))) rNil)) (rC (.int 2147483647)))))
    (rRet (rLstM (rCons (rVar 2) (rCons (rCB (listD true) (rCons (rVar 0) rNil)) (rCons (rC (.int 0)) rNil)))))))
def ct__law_mix (a : Ad) : Ct := ctOf 2 (r_law_mix a)
abbrev s_law_next : Stmt := top 14
abbrev N_law_next : List Str := ["_law_h", "_law_cap", "_law_cell"]
abbrev P_law_next : List Str := ["_law_h", "_law_cap"]
theorem sc_law_next : FnScope N_law_next P_law_next (defScope s_law_next) := ⟨rfl, rfl, rfl, by decide +kernel, rfl, by decide +kernel, by decide +kernel⟩
def r_law_next (a : Ad) : RS := (rSeq (rSet 2 (rBin getD (rBin addD (rBin getD (rVar 0) (rC (.int 1))) (rLst (rCons (rC (.int 0)) rNil))) (rBin modD (rCB intD (rCons (rBin getD (rVar 0) (rC (.int 2))) rNil)) (rCB max2D (rCons (rC (.int 1)) (rCons (rCB lenD (rCons (rBin getD (rVar 0) (rC (.int 1))) rNil)) rNil))))))
    (rSeq (rIfS (rT (rBin geD (rVar 2) (rBin powD (rC (.int 10)) (rC (.int 18))))) (rSeq (rAsgD (gSt (rBin getD (rVar 0) (rC (.int 1))) (rBin modD (rCB intD (rCons (rBin getD (rVar 0) (rC (.int 2))) rNil)) (rCB lenD (rCons (rBin getD (rVar 0) (rC (.int 1))) rNil)))) (rBin divD (rVar 2) (rVar 1)))
    (rRet (rBin modD (rCB intD (rCons (rVar 2) rNil)) (rVar 1)))) (fun δ μ => .nx δ μ))
    (rSeq (rAsgD (gSt (rVar 0) (rC (.int 0))) (rBin modD (rCB intD (rCons (rBin addD (rBin addD (rBin mulD (rBin getD (rVar 0) (rC (.int 0))) (rC (.int 48271))) (rBin mulD (rVar 2) (rC (.int 69621)))) (rC (.int 11))) rNil)) (rC (.int 2147483647))))
    (rSeq (rAsgD (gSt (rVar 0) (rC (.int 2))) (rBin addD (rBin getD (rVar 0) (rC (.int 2))) (rC (.int 1))))
    (rRet (rBin modD (rCB intD (rCons (rBin divD (rBin getD (rVar 0) (rC (.int 0))) (rC (.int 7))) rNil)) (rVar 1)))))))
def ct__law_next (a : Ad) : Ct := ctT 1 (r_law_next a)
abbrev s_law_alike : Stmt := top 15
abbrev N_law_alike : List Str := ["_law_found", "_law_due", "_law_k"]
abbrev P_law_alike : List Str := ["_law_found", "_law_due"]
theorem sc_law_alike : FnScope N_law_alike P_law_alike (defScope s_law_alike) := ⟨rfl, rfl, rfl, by decide +kernel, rfl, by decide +kernel, by decide +kernel⟩
def r_law_alike (a : Ad) (rec : Ct) : RS := (rSeq (rIfS (rT (rCB (isiD (.ty "dict") (isT "dict")) (rCons (rVar 1) (rCons (rC (.vv (.ty "dict"))) rNil)))) (rRet (rAndV (rCB (isiD (.ty "dict") (isT "dict")) (rCons (rVar 0) (rCons (rC (.vv (.ty "dict"))) rNil))) (rAndV (rCall 2 rec (rCons (rCB (listD false) (rCons (rVar 0) rNil)) (rCons (rCB (listD false) (rCons (rVar 1) rNil)) rNil))) (rBin eqG (rVar 0) (rVar 1))))) (fun δ μ => .nx δ μ))
    (rSeq (rIfS (rT (rIsTs (isT2 "tuple" "list") (rVar 1))) (rSeq (rIfS (rOrT (rNotT (rT (rIsTs (isT2 "tuple" "list") (rVar 0)))) (rT (rBin neD (rCB (isiD (.ty "list") (isT "list")) (rCons (rVar 0) (rCons (rC (.vv (.ty "list"))) rNil))) (rCB (isiD (.ty "list") (isT "list")) (rCons (rVar 1) (rCons (rC (.vv (.ty "list"))) rNil)))))) (rRet (rC (.bl false))) (fun δ μ => .nx δ μ))
    (rSeq (rIfS (rT (rBin neD (rCB lenD (rCons (rVar 0) rNil)) (rCB lenD (rCons (rVar 1) rNil)))) (rRet (rC (.bl false))) (fun δ μ => .nx δ μ))
    (rRet (rBin eqD (rLc (rRange1 (rCons (rCB lenD (rCons (rVar 1) rNil)) rNil)) (.nm 2) (([("_law_k", 2)] : List (Str × Nat)).map (·.2)) (rNotT (rT (rCall 2 rec (rCons (rBin getD (rVar 0) (rVar 2)) (rCons (rBin getD (rVar 1) (rVar 2)) rNil))))) (rVar 2)) (rLst rNil))))) (fun δ μ => .nx δ μ))
    (rSeq (rIfS (rOrT (rT (rBin isN (rVar 1) (rC .non))) (rT (rCB (isiD (.ty "str") (isT "str")) (rCons (rVar 1) (rCons (rC (.vv (.ty "str"))) rNil))))) (rRet (rAndV (rBin eqG (rVar 0) (rVar 1)) (rBin eqD (rCB (isiD (.ty "str") (isT "str")) (rCons (rVar 0) (rCons (rC (.vv (.ty "str"))) rNil))) (rCB (isiD (.ty "str") (isT "str")) (rCons (rVar 1) (rCons (rC (.vv (.ty "str"))) rNil)))))) (fun δ μ => .nx δ μ))
    (rRet (rAndV (rCB (isiD (.ty "int") (isT "int")) (rCons (rVar 0) (rCons (rC (.vv (.ty "int"))) rNil))) (rAndV (rBin eqD (rCB (isiD (.ty "bool") (isT "bool")) (rCons (rVar 0) (rCons (rC (.vv (.ty "bool"))) rNil))) (rCB (isiD (.ty "bool") (isT "bool")) (rCons (rVar 1) (rCons (rC (.vv (.ty "bool"))) rNil)))) (rBin eqG (rVar 0) (rVar 1))))))))
def ct__law_alike_0 (a : Ad) : Ct := ctT 1 (r_law_alike a (fun _ _ => .bad))
def ct__law_alike_1 (a : Ad) : Ct := ctT 1 (r_law_alike a (ct__law_alike_0 a))
def ct__law_alike_2 (a : Ad) : Ct := ctT 1 (r_law_alike a (ct__law_alike_1 a))
def ct__law_alike_3 (a : Ad) : Ct := ctT 1 (r_law_alike a (ct__law_alike_2 a))
abbrev ct__law_alike (a : Ad) : Ct := ct__law_alike_3 a
abbrev s_law_pick : Stmt := top 16
abbrev N_law_pick : List Str := ["_law_h", "_law_things"]
abbrev P_law_pick : List Str := ["_law_h", "_law_things"]
theorem sc_law_pick : FnScope N_law_pick P_law_pick (defScope s_law_pick) := ⟨rfl, rfl, rfl, by decide +kernel, rfl, by decide +kernel, by decide +kernel⟩
def r_law_pick (a : Ad) : RS := (rRet (rBin getD (rVar 1) (rCall 2 (ct__law_next a) (rCons (rVar 0) (rCons (rCB lenD (rCons (rVar 1) rNil)) rNil)))))
def ct__law_pick (a : Ad) : Ct := ctT 0 (r_law_pick a)
abbrev s_law_parts : Stmt := top 17
abbrev N_law_parts : List Str := ["_law_found"]
abbrev P_law_parts : List Str := []
theorem sc_law_parts : FnScope N_law_parts P_law_parts (defScope s_law_parts) := ⟨rfl, rfl, rfl, by decide +kernel, rfl, by decide +kernel, by decide +kernel⟩
def r_law_parts (a : Ad) : RS := (rSeq (rSet 0 (rLstM (rCons (rLst (rCons (rC (.str "counts")) (rCons (rC (.str "comes")) (rCons (rC (.str "fits")) rNil)))) (rCons (rLst (rCons (rC (.str "evening")) (rCons (rC (.str "looks")) (rCons (rC (.str "sends")) rNil)))) (rCons (rLst (rCons (rC (.str "lost")) (rCons (rC (.str "again")) (rCons (rC (.str "noted")) rNil)))) rNil)))))
    (rSeq (rDrop (rMt isLst apD (rVar 0) (rCons (rLst (rCons (rC (.str "remembers")) (rCons (rC (.str "number")) (rCons (rC (.str "price")) (rCons (rC (.str "thing")) rNil))))) rNil)))
    (rRet (rBin addD (rVar 0) (rLst (rCons (rLst (rCons (rC (.str "search")) (rCons (rC (.str "forgets")) (rCons (rC (.str "keeps")) rNil)))) (rCons (rLst (rCons (rC (.str "tells")) (rCons (rC (.str "evening")) (rCons (rC (.str "now")) rNil)))) rNil)))))))
def ct__law_parts (a : Ad) : Ct := ctT 1 (r_law_parts a)
abbrev s_law_rule : Stmt := top 18
abbrev N_law_rule : List Str := ["_law_h", "_law_rule_here", "_law_row"]
abbrev P_law_rule : List Str := ["_law_h"]
theorem sc_law_rule : FnScope N_law_rule P_law_rule (defScope s_law_rule) := ⟨rfl, rfl, rfl, by decide +kernel, rfl, by decide +kernel, by decide +kernel⟩
def r_law_rule (a : Ad) : RS := (rSeq (rSet 1 rDnew)
    (rSeq (rFor (rItems (fun _ μ => noX (ct__law_parts a [] μ))) (.nm 2) (rAsgD (gSt (rVar 1) (rBin getD (rVar 2) (rC (.int 0)))) (rCall 2 (ct__law_pick a) (rCons (rVar 0) (rCons (rSlice (rVar 2) (rSome (rC (.int 1))) rNone) rNil)))))
    (rSeq (rIfS (rT (rBin eqD (rCall 2 (ct__law_next a) (rCons (rVar 0) (rCons (rC (.int 2)) rNil))) (rC (.int 0)))) (rAsgD (gSt (rVar 1) (rC (.str "tells"))) (rC (.str "evening"))) (fun δ μ => .nx δ μ))
    (rRet (rVar 1)))))
def ct__law_rule (a : Ad) : Ct := ctOf 2 (r_law_rule a)
abbrev s_law_words : Stmt := top 19
abbrev N_law_words : List Str := ["_law_h", "_law_many", "_law_every", "_law_found", "_law_k", "_law_word"]
abbrev P_law_words : List Str := ["_law_h", "_law_many"]
theorem sc_law_words : FnScope N_law_words P_law_words (defScope s_law_words) := ⟨rfl, rfl, rfl, by decide +kernel, rfl, by decide +kernel, by decide +kernel⟩
def r_law_words (a : Ad) : RS := (rSeq (rSet 2 (rLst (rCons (rC (.str "anew")) (rCons (rC (.str "lose")) (rCons (rC (.str "number")) (rCons (rC (.str "pause")) (rCons (rC (.str "price")) (rCons (rC (.str "search")) rNil))))))))
    (rSeq (rSet 3 (rLc (rRange1 (rCons (rCall 2 (ct__law_next a) (rCons (rVar 0) (rCons (rBin addD (rVar 1) (rC (.int 1))) rNil))) rNil)) (.nm 4) (([("_law_k", 4)] : List (Str × Nat)).map (·.2)) rYes (rCall 2 (ct__law_pick a) (rCons (rVar 0) (rCons (rVar 2) rNil)))))
    (rRet (rCB tupD (rCons (rLc (rItems (rVar 2)) (.nm 5) (([("_law_word", 5)] : List (Str × Nat)).map (·.2)) (rT (rBin (inD false) (rVar 5) (rVar 3))) (rVar 5)) rNil)))))
def ct__law_words (a : Ad) : Ct := ctT 4 (r_law_words a)
abbrev s_law_with : Stmt := top 20
abbrev N_law_with : List Str := ["_law_rule_here", "_law_part", "_law_word", "_law_found"]
abbrev P_law_with : List Str := ["_law_rule_here", "_law_part", "_law_word"]
theorem sc_law_with : FnScope N_law_with P_law_with (defScope s_law_with) := ⟨rfl, rfl, rfl, by decide +kernel, rfl, by decide +kernel, by decide +kernel⟩
def r_law_with (a : Ad) : RS := (rSeq (rSet 3 (rCB dictD (rCons (rVar 0) rNil)))
    (rSeq (rAsgD (gSt (rVar 3) (rVar 1)) (rVar 2))
    (rRet (rFrz (rVar 3)))))
def ct__law_with (a : Ad) : Ct := ctT 1 (r_law_with a)
abbrev s_law_draw : Stmt := top 21
abbrev N_law_draw : List Str := ["_law_h"]
abbrev P_law_draw : List Str := ["_law_h"]
theorem sc_law_draw : FnScope N_law_draw P_law_draw (defScope s_law_draw) := ⟨rfl, rfl, rfl, by decide +kernel, rfl, by decide +kernel, by decide +kernel⟩
def r_law_draw (a : Ad) : RS := (rRet (rLstM (rCons (rC (.int 2)) (rCons (rCall 1 (ct__law_rule a) (rCons (rVar 0) rNil)) (rCons (rCall 2 (ct__law_words a) (rCons (rVar 0) (rCons (rC (.int 3)) rNil))) rNil)))))
def ct__law_draw (a : Ad) : Ct := ctOf 0 (r_law_draw a)
abbrev s_law_built : Stmt := top 22
abbrev N_law_built : List Str := ["_law_row"]
abbrev P_law_built : List Str := ["_law_row"]
theorem sc_law_built : FnScope N_law_built P_law_built (defScope s_law_built) := ⟨rfl, rfl, rfl, by decide +kernel, rfl, by decide +kernel, by decide +kernel⟩
def r_law_built (a : Ad) : RS := (rRet (rMakeX a.kBook 3 (cm_Book a) (rCons (rBin getD (rVar 0) (rC (.int 0))) (rCons (rBin getD (rVar 0) (rC (.int 1))) (rCons (rBin getD (rVar 0) (rC (.int 2))) rNil)))))
def ct__law_built (a : Ad) : Ct := ctT 0 (r_law_built a)
abbrev s_law_rule_fault : Stmt := top 23
abbrev N_law_rule_fault : List Str := ["_law_rule_here", "_law_names", "_law_row", "_law_name"]
abbrev P_law_rule_fault : List Str := ["_law_rule_here"]
theorem sc_law_rule_fault : FnScope N_law_rule_fault P_law_rule_fault (defScope s_law_rule_fault) := ⟨rfl, rfl, rfl, by decide +kernel, rfl, by decide +kernel, by decide +kernel⟩
def r_law_rule_fault (a : Ad) : RS := (rSeq (rSet 1 (rLc (rItems (fun _ μ => noX (ct__law_parts a [] μ))) (.nm 2) (([("_law_row", 2)] : List (Str × Nat)).map (·.2)) rYes (rCB reprD (rCons (rBin getD (rVar 2) (rC (.int 0))) rNil))))
    (rSeq (rIfS (rOrT (rNotT (rT (rCB (isiD (.ty "dict") (isT "dict")) (rCons (rVar 0) (rCons (rC (.vv (.ty "dict"))) rNil))))) (rT (rBin neD (rCB (sortA false) (rCons (rLc (rItems (rVar 0)) (.nm 3) (([("_law_name", 3)] : List (Str × Nat)).map (·.2)) rYes (rCB reprD (rCons (rVar 3) rNil))) rNil)) (rVar 1)))) (rRet (rC (.str ""))) (fun δ μ => .nx δ μ))
    (rSeq (rFor (rItems (fun _ μ => noX (ct__law_parts a [] μ))) (.nm 2) (rIfS (rOrT (rNotT (rT (rCB (isiD (.ty "str") (isT "str")) (rCons (rBin getD (rVar 0) (rBin getD (rVar 2) (rC (.int 0)))) (rCons (rC (.vv (.ty "str"))) rNil))))) (rT (rBin (inD true) (rBin getD (rVar 0) (rBin getD (rVar 2) (rC (.int 0)))) (rSlice (rVar 2) (rSome (rC (.int 1))) rNone)))) (rRet (rBin getD (rVar 2) (rC (.int 0)))) (fun δ μ => .nx δ μ)))
    (rRet (rC .non)))))
def ct__law_rule_fault (a : Ad) : Ct := ctT 3 (r_law_rule_fault a)
abbrev s_law_fault : Stmt := top 24
abbrev N_law_fault : List Str := ["_law_row", "_law_every", "_law_word"]
abbrev P_law_fault : List Str := ["_law_row"]
theorem sc_law_fault : FnScope N_law_fault P_law_fault (defScope s_law_fault) := ⟨rfl, rfl, rfl, by decide +kernel, rfl, by decide +kernel, by decide +kernel⟩
def r_law_fault (a : Ad) : RS := (rSeq (rIfS (rOrT (rT (rCB (isiD (.ty "bool") (isT "bool")) (rCons (rBin getD (rVar 0) (rC (.int 0))) (rCons (rC (.vv (.ty "bool"))) rNil)))) (rOrT (rNotT (rT (rCB (isiD (.ty "int") (isT "int")) (rCons (rBin getD (rVar 0) (rC (.int 0))) (rCons (rC (.vv (.ty "int"))) rNil))))) (rT (rBin (inD true) (rBin getD (rVar 0) (rC (.int 0))) (rLst (rCons (rC (.int 2)) (rCons (rC (.int 3)) rNil))))))) (rRet (rC (.str "prices"))) (fun δ μ => .nx δ μ))
    (rSeq (rIfS (rT (rBin isNotN (rCall 1 (ct__law_rule_fault a) (rCons (rBin getD (rVar 0) (rC (.int 1))) rNil)) (rC .non))) (rRet (rTup (rCons (rC (.str "rule")) (rCons (rCall 1 (ct__law_rule_fault a) (rCons (rBin getD (rVar 0) (rC (.int 1))) rNil)) rNil)))) (fun δ μ => .nx δ μ))
    (rSeq (rSet 1 (rLst (rCons (rC (.str "anew")) (rCons (rC (.str "lose")) (rCons (rC (.str "number")) (rCons (rC (.str "pause")) (rCons (rC (.str "price")) (rCons (rC (.str "search")) rNil))))))))
    (rSeq (rIfS (rOrT (rNotT (rT (rCB (isiD (.ty "tuple") (isT "tuple")) (rCons (rBin getD (rVar 0) (rC (.int 2))) (rCons (rC (.vv (.ty "tuple"))) rNil))))) (rT (rBin neD (rLc (rItems (rVar 1)) (.nm 2) (([("_law_word", 2)] : List (Str × Nat)).map (·.2)) (rT (rBin (inD false) (rVar 2) (rBin getD (rVar 0) (rC (.int 2))))) (rVar 2)) (rCB (listD false) (rCons (rBin getD (rVar 0) (rC (.int 2))) rNil))))) (rRet (rC (.str "words"))) (fun δ μ => .nx δ μ))
    (rRet (rC .non))))))
def ct__law_fault (a : Ad) : Ct := ctT 2 (r_law_fault a)
abbrev s_law_tried : Stmt := top 25
abbrev N_law_tried : List Str := ["_law_book", "_law_row", "_law_part", "_law_word", "_law_found", "error"]
abbrev P_law_tried : List Str := ["_law_book", "_law_row", "_law_part", "_law_word"]
theorem sc_law_tried : FnScope N_law_tried P_law_tried (defScope s_law_tried) := ⟨rfl, rfl, rfl, by decide +kernel, rfl, by decide +kernel, by decide +kernel⟩
def r_law_tried (a : Ad) : RS := (rSeq (rSet 4 (rC .non))
    (rSeq (rTry (rSet 4 (rIf (rT (rBin isN (rVar 0) (rC .non))) (rCall 1 (ct__law_built a) (rCons (rVar 1) rNil)) (rMeth a.kBook "changed" 2 (cu_Book_changed a) (rVar 0) (rCons (rVar 2) (rCons (rVar 3) rNil))))) [⟨mOf [(a.kInvalidPrices, true), (a.kInvalidRule, false), (a.kInvalidWords, false)], some 5, (sSet 4 (gIs (okOf a.kInvalidPrices) (gC (.str "prices"))))⟩, ⟨mOf [(a.kInvalidPrices, false), (a.kInvalidRule, true), (a.kInvalidWords, false)], some 5, (sSet 4 (gTup2 (gC (.str "rule")) (gFld a.kInvalidRule "part")))⟩, ⟨mOf [(a.kInvalidPrices, false), (a.kInvalidRule, false), (a.kInvalidWords, true)], none, (sSet 4 (gC (.str "words")))⟩])
    (rRet (rVar 4))))
def ct__law_tried (a : Ad) : Ct := ctT 2 (r_law_tried a)
abbrev s_law_spoiled : Stmt := top 26
abbrev N_law_spoiled : List Str := ["_law_h", "_law_row", "_law_turn", "_law_at", "_law_kind", "_law_name", "_law_odd"]
abbrev P_law_spoiled : List Str := ["_law_h", "_law_row"]
theorem sc_law_spoiled : FnScope N_law_spoiled P_law_spoiled (defScope s_law_spoiled) := ⟨rfl, rfl, rfl, by decide +kernel, rfl, by decide +kernel, by decide +kernel⟩
def r_law_spoiled (a : Ad) : RS := (rSeq (rFor (rRange1 (rCons (rCall 2 (ct__law_next a) (rCons (rVar 0) (rCons (rC (.int 3)) rNil))) rNil)) (.nm 2) (rSeq (rSet 3 (rCall 2 (ct__law_next a) (rCons (rVar 0) (rCons (rC (.int 3)) rNil))))
    (rIfS (rT (rBin eqD (rVar 3) (rC (.int 0)))) (rAsgD (gSt (rVar 1) (rC (.int 0))) (rCall 2 (ct__law_pick a) (rCons (rVar 0) (rCons (rLst (rCons (rC (.int 0)) (rCons (rC (.int 1)) (rCons (rC (.int 4)) (rCons (rC (.int (-2))) (rCons (rC .non) (rCons (rC (.bl true)) (rCons (rC (.str "2")) (rCons (rTup (rCons (rC (.int 2)) rNil)) (rCons (rLst (rCons (rC (.int 3)) rNil)) rNil)))))))))) rNil)))) (rIfS (rT (rBin eqD (rVar 3) (rC (.int 1)))) (rSeq (rPar 4 5 (rCons (rCall 2 (ct__law_next a) (rCons (rVar 0) (rCons (rC (.int 3)) rNil))) (rCons (rBin getD (rCall 2 (ct__law_pick a) (rCons (rVar 0) (rCons (fun _ μ => noX (ct__law_parts a [] μ)) rNil))) (rC (.int 0))) rNil)))
    (rIfS (rT (rBin eqD (rVar 4) (rC (.int 0)))) (rAsgD (gSt (rVar 1) (rC (.int 1))) (rCall 2 (ct__law_pick a) (rCons (rVar 0) (rCons (rLst (rCons (rC .non) (rCons (rLst rNil) (rCons (rC (.str "rule")) (rCons rDnew (rCons (rC (.int 5)) (rCons (rDict ["lost"] (rCons (rC (.str "again")) rNil)) rNil))))))) rNil)))) (rIfS (rT (rCB (isiD (.ty "dict") (isT "dict")) (rCons (rBin getD (rVar 1) (rC (.int 1))) (rCons (rC (.vv (.ty "dict"))) rNil)))) (rAsgD (gSt (rBin getD (rVar 1) (rC (.int 1))) (rVar 5)) (rCall 2 (ct__law_pick a) (rCons (rVar 0) (rCons (rLst (rCons (rC (.str "fits")) (rCons (rC (.str "now")) (rCons (rC .non) (rCons (rC (.bl true)) (rCons (rC (.str "")) (rCons (rLst (rCons (rC (.str "looks")) rNil)) (rCons (rC (.str "thing")) (rCons (rC (.int 0)) rNil))))))))) rNil)))) (fun δ μ => .nx δ μ)))) (rSeq (rSet 6 (rLst (rCons (rC .non) (rCons (rLst (rCons (rC (.str "lose")) rNil)) (rCons (rTup (rCons (rC (.str "pause")) (rCons (rC (.str "lose")) rNil))) (rCons (rTup (rCons (rC (.str "lose")) (rCons (rC (.str "lose")) rNil))) (rCons (rTup (rCons (rC (.str "come")) rNil)) rNil)))))))
    (rSeq (rSet 6 (rBin addD (rVar 6) (rLst (rCons (rC (.str "anew")) (rCons (rTup (rCons (rC (.str "anew")) (rCons (rC (.int 5)) rNil))) (rCons (rTup (rCons (rC (.str "go")) rNil)) rNil))))))
    (rAsgD (gSt (rVar 1) (rC (.int 2))) (rCall 2 (ct__law_pick a) (rCons (rVar 0) (rCons (rVar 6) rNil))))))))))
    (rRet (rFzl (rFrz1 1 (rVar 1)))))
def ct__law_spoiled (a : Ad) : Ct := ctT 5 (r_law_spoiled a)
abbrev s_law : Stmt := top 27
abbrev N_law : List Str := ["_law_script", "_law_h", "_law_turn", "_law_row", "_law_found", "_law_fault_here", "_law_part", "_law_word", "_law_later", "_law_some"]
abbrev P_law : List Str := ["_law_script"]
theorem sc_law : FnScope N_law P_law (defScope s_law) := ⟨rfl, rfl, rfl, by decide +kernel, rfl, by decide +kernel, by decide +kernel⟩
def r_law (a : Ad) : RS := (rSeq (rSet 1 (rCall 2 (ct__law_mix a) (rCons (rVar 0) (rCons (rC (.int 1)) rNil))))
    (rSeq (rFor (rRange1 (rCons (rC (.int 6)) rNil)) (.nm 2) (rSeq (rSet 3 (rCall 1 (ct__law_draw a) (rCons (rVar 1) rNil)))
    (rSeq (rAsgD (gSt (rVar 3) (rC (.int 0))) (rBin addD (rC (.int 2)) (rCall 2 (ct__law_next a) (rCons (rVar 1) (rCons (rC (.int 2)) rNil)))))
    (rSeq (rSet 3 (rCall 2 (ct__law_spoiled a) (rCons (rVar 1) (rCons (rVar 3) rNil))))
    (rSeq (rPar 4 5 (rCons (rCall 4 (ct__law_tried a) (rCons (rC .non) (rCons (rVar 3) (rCons (rC .non) (rCons (rC .non) rNil))))) (rCons (rCall 1 (ct__law_fault a) (rCons (rVar 3) rNil)) rNil)))
    (rIfS (rT (rBin isNotN (rVar 5) (rC .non))) (rIfS (rNotT (rT (rCall 2 (ct__law_alike a) (rCons (rVar 4) (rCons (rVar 5) rNil))))) (rRet (rC (.bl false))) (fun δ μ => .nx δ μ)) (rSeq (rIfS (rNotT (rT (rCall 2 (ct__law_alike a) (rCons (rLst (rCons (rProp a.kBook (cp_Book_prices a) (rVar 4)) (rCons (rProp a.kBook (cp_Book_rule a) (rVar 4)) (rCons (rProp a.kBook (cp_Book_words a) (rVar 4)) rNil)))) (rCons (rVar 3) rNil))))) (rRet (rC (.bl false))) (fun δ μ => .nx δ μ))
    (rSeq (rIfS (rOrT (rNotT (rT (rBin (ownD a.kBook (cq_Book a)) (rVar 4) (rCall 1 (ct__law_built a) (rCons (rVar 3) rNil))))) (rOrT (rT (rBin (ownL a.kBook (cq_Book a)) (rVar 4) (rVar 3))) (rT (rBin (ownD a.kBook (cq_Book a)) (rVar 4) (rMakeX a.kBook 3 (cm_Book a) (rCons (rBin subD (rC (.int 5)) (rBin getD (rVar 3) (rC (.int 0)))) (rCons (rBin getD (rVar 3) (rC (.int 1))) (rCons (rBin getD (rVar 3) (rC (.int 2))) rNil)))))))) (rRet (rC (.bl false))) (fun δ μ => .nx δ μ))
    (rSeq (rSet 6 (rCall 2 (ct__law_pick a) (rCons (rVar 1) (rCons (rBin addD (rLc (rItems (fun _ μ => noX (ct__law_parts a [] μ))) (.nm 9) (([("_law_some", 9)] : List (Str × Nat)).map (·.2)) rYes (rBin getD (rVar 9) (rC (.int 0)))) (rLst (rCons (rC (.str "")) (rCons (rC (.str "prices")) (rCons (rC .non) (rCons (rC (.int 5)) (rCons (rC (.str "words")) (rCons (rLst (rCons (rC (.str "lost")) rNil)) rNil)))))))) rNil))))
    (rSeq (rSet 7 (rCall 2 (ct__law_pick a) (rCons (rVar 1) (rCons (rLst (rCons (rC (.str "comes")) (rCons (rC (.str "fits")) (rCons (rC (.str "looks")) (rCons (rC (.str "sends")) (rCons (rC (.str "again")) (rCons (rC (.str "noted")) (rCons (rC (.str "price")) (rCons (rC (.str "keeps")) (rCons (rC (.str "now")) (rCons (rC .non) (rCons (rC (.int 0)) rNil)))))))))))) rNil))))
    (rSeq (rSet 8 (rCall 4 (ct__law_tried a) (rCons (rVar 4) (rCons (rC .non) (rCons (rVar 6) (rCons (rVar 7) rNil))))))
    (rIfS (rOrT (rNotT (rT (rCB (isiD (.ty "str") (isT "str")) (rCons (rVar 6) (rCons (rC (.vv (.ty "str"))) rNil))))) (rT (rBin (inD true) (rVar 6) (rBin getD (rVar 3) (rC (.int 1)))))) (rIfS (rNotT (rT (rCall 2 (ct__law_alike a) (rCons (rVar 8) (rCons (rTup (rCons (rC (.str "rule")) (rCons (rC (.str "")) rNil))) rNil))))) (rRet (rC (.bl false))) (fun δ μ => .nx δ μ)) (rIfS (rT (rBin isNotN (rCall 1 (ct__law_rule_fault a) (rCons (rCall 3 (ct__law_with a) (rCons (rBin getD (rVar 3) (rC (.int 1))) (rCons (rVar 6) (rCons (rVar 7) rNil)))) rNil)) (rC .non))) (rIfS (rT (rBin neD (rVar 8) (rTup (rCons (rC (.str "rule")) (rCons (rVar 6) rNil))))) (rRet (rC (.bl false))) (fun δ μ => .nx δ μ)) (rIfS (rOrT (rT (rBin neG (rProp a.kBook (cp_Book_rule a) (rVar 8)) (rCall 3 (ct__law_with a) (rCons (rBin getD (rVar 3) (rC (.int 1))) (rCons (rVar 6) (rCons (rVar 7) rNil)))))) (rOrT (rT (rBin neD (rProp a.kBook (cp_Book_prices a) (rVar 8)) (rBin getD (rVar 3) (rC (.int 0))))) (rT (rBin neD (rProp a.kBook (cp_Book_words a) (rVar 8)) (rBin getD (rVar 3) (rC (.int 2))))))) (rRet (rC (.bl false))) (rIfS (rT (rBin neD (rBin (ownD a.kBook (cq_Book a)) (rVar 8) (rVar 4)) (rBin eqD (rVar 7) (rBin getD (rBin getD (rVar 3) (rC (.int 1))) (rVar 6))))) (rRet (rC (.bl false))) (fun δ μ => .nx δ μ))))))))))))))))
    (rRet (rC (.bl true)))))
def ct_law (a : Ad) : Ct := ctOf 9 (r_law a)
structure Txt (P : Program) (K : PySem.W.Frag) (mg : Str → Option Value) (w : World) (a : Ad) : Prop where
  g_Book : mg "Book" = some (.ref a.kBook)
  g_PARTS : mg "PARTS" = some (.ref a.cPARTS)
  D_PARTS : KDat K w a.cPARTS (kv_PARTS a)
  l_PARTS : ∀ α F, IsL K α F ((kv_PARTS a).map (·.2)) xs_PARTS
  g_WORDS : mg "WORDS" = some (.ref a.cWORDS)
  i_WORDS : ∀ α F, Is K α F (.ref a.cWORDS) (d_WORDS a)
  n_all : mg "all" = none
  n_bool : mg "bool" = none
  n_dict : mg "dict" = none
  n_int : mg "int" = none
  n_isinstance : mg "isinstance" = none
  n_len : mg "len" = none
  n_list : mg "list" = none
  n_max : mg "max" = none
  n_range : mg "range" = none
  n_repr : mg "repr" = none
  n_sorted : mg "sorted" = none
  n_str : mg "str" = none
  n_tuple : mg "tuple" = none
  at_Book_highest : At K a.kBook "highest"
  at_Book_kinds : At K a.kBook "kinds"
  at_Book_terms : At K a.kBook "terms"
  is_Book : IsiQ K (.ref a.kBook) (isKB a.kBook)
  df_is_integer : Df K mg "is_integer" s_is_integer P_is_integer
  df_is_word : Df K mg "is_word" s_is_word P_is_word
  df_check_rule : Df K mg "check_rule" s_check_rule P_check_rule
  dc_Book : Dc K mg "Book" "Book.__init__" s_Book_init a.kBook P_Book_init
  dp_Book_prices : Dp K "prices" "Book.prices" s_Book_p_prices a.kBook P_Book_p_prices
  dp_Book_rule : Dp K "rule" "Book.rule" s_Book_p_rule a.kBook P_Book_p_rule
  dp_Book_words : Dp K "words" "Book.words" s_Book_p_words a.kBook P_Book_p_words
  dt_Book_changed : Dm K "changed" "Book.changed" s_Book_t_changed a.kBook P_Book_t_changed
  de_Book : De K "Book.__eq__" s_Book_eq a.kBook P_Book_eq
  df__law_mix : Df K mg "_law_mix" s_law_mix P_law_mix
  df__law_next : Df K mg "_law_next" s_law_next P_law_next
  df__law_alike : Df K mg "_law_alike" s_law_alike P_law_alike
  df__law_pick : Df K mg "_law_pick" s_law_pick P_law_pick
  df__law_parts : Df K mg "_law_parts" s_law_parts P_law_parts
  df__law_rule : Df K mg "_law_rule" s_law_rule P_law_rule
  df__law_words : Df K mg "_law_words" s_law_words P_law_words
  df__law_with : Df K mg "_law_with" s_law_with P_law_with
  df__law_draw : Df K mg "_law_draw" s_law_draw P_law_draw
  df__law_built : Df K mg "_law_built" s_law_built P_law_built
  df__law_rule_fault : Df K mg "_law_rule_fault" s_law_rule_fault P_law_rule_fault
  df__law_fault : Df K mg "_law_fault" s_law_fault P_law_fault
  df__law_tried : Df K mg "_law_tried" s_law_tried P_law_tried
  df__law_spoiled : Df K mg "_law_spoiled" s_law_spoiled P_law_spoiled
  e_InvalidPrices_InvalidPrices : PySem.W.exmOne K (.ref a.kInvalidPrices) (.ref a.kInvalidPrices) = some true
  e_InvalidPrices_InvalidRule : PySem.W.exmOne K (.ref a.kInvalidPrices) (.ref a.kInvalidRule) = some false
  e_InvalidPrices_InvalidWords : PySem.W.exmOne K (.ref a.kInvalidPrices) (.ref a.kInvalidWords) = some false
  e_InvalidRule_InvalidPrices : PySem.W.exmOne K (.ref a.kInvalidRule) (.ref a.kInvalidPrices) = some false
  e_InvalidRule_InvalidRule : PySem.W.exmOne K (.ref a.kInvalidRule) (.ref a.kInvalidRule) = some true
  e_InvalidRule_InvalidWords : PySem.W.exmOne K (.ref a.kInvalidRule) (.ref a.kInvalidWords) = some false
  e_InvalidWords_InvalidPrices : PySem.W.exmOne K (.ref a.kInvalidWords) (.ref a.kInvalidPrices) = some false
  e_InvalidWords_InvalidRule : PySem.W.exmOne K (.ref a.kInvalidWords) (.ref a.kInvalidRule) = some false
  e_InvalidWords_InvalidWords : PySem.W.exmOne K (.ref a.kInvalidWords) (.ref a.kInvalidWords) = some true
  xs_InvalidPrices : ExcC K a.kInvalidPrices
  ki_InvalidPrices_FindError : PySem.W.kitOne K (.ref a.kInvalidPrices) (.ref a.kFindError) = some true
  gx_FindError : mg "FindError" = some (.ref a.kFindError)
  gx_InvalidPrices : mg "InvalidPrices" = some (.ref a.kInvalidPrices)
  gx_InvalidRule : mg "InvalidRule" = some (.ref a.kInvalidRule)
  gx_InvalidWords : mg "InvalidWords" = some (.ref a.kInvalidWords)
  x_InvalidPrices : Xc P w K mg "InvalidPrices" a.kInvalidPrices []
  x_InvalidRule : Xc P w K mg "InvalidRule" a.kInvalidRule ["part"]
  x_InvalidWords : Xc P w K mg "InvalidWords" a.kInvalidWords []
  xf_InvalidRule : XfC K a.kInvalidRule
  no_InvalidRule_part : PySem.W.findIn K (.ref a.kInvalidRule) "part" = some none
section
variable {P : Program} {w : World} {K : PySem.W.Frag} {mg : Str → Option Value} {base : Heap} {a : Ad}
theorem b_is_integer (T : Txt P K mg w a)  : Body P w K mg base "is_integer" s_is_integer N_is_integer 0 (r_is_integer a) := by
  intro f cdv A outer s H E g
  unfold r_is_integer
  exact (psd_one (psd_ret (pd_and (pd_isT "int" T.n_isinstance (pda_cons (pd_var 0) (pda_cons (pd_bltn (v := .ty "int") (by rfl) T.n_int PyProof.Rows.boot_int rfl) pda_nil))) (pd_and (pd_not (pd_isT "bool" T.n_isinstance (pda_cons (pd_var 0) (pda_cons (pd_bltn (v := .ty "bool") (by rfl) T.n_bool PyProof.Rows.boot_bool rfl) pda_nil)))) (pd_one (pd_le2 (pd_var 1) (pd_var 0) (pd_var 2)))))))
theorem b_is_word (T : Txt P K mg w a)  : Body P w K mg base "is_word" s_is_word N_is_word 0 (r_is_word a) := by
  intro f cdv A outer s H E g
  unfold r_is_word
  exact (psd_one (psd_ret (pd_and (pd_isT "str" T.n_isinstance (pda_cons (pd_var 0) (pda_cons (pd_bltn (v := .ty "str") (by rfl) T.n_str PyProof.Rows.boot_str rfl) pda_nil))) (pd_one (pd_in g.hu (pd_var 0) (pd_var 1))))))
theorem b_check_rule (T : Txt P K mg w a) (c_is_word : Cal P w K mg base 1 "is_word" 2 (ct_is_word a)) : Body P w K mg base "check_rule" s_check_rule N_check_rule 3 (r_check_rule a) := by
  intro f cdv A outer s H E g
  unfold r_check_rule
  exact (psd_cons (psd_if (pdt_w (pdw_or (pdt_not (pdt_val (pd_isT "dict" T.n_isinstance (pda_cons (pd_var 0) (pda_cons (pd_bltn (v := .ty "dict") (by rfl) T.n_dict PyProof.Rows.boot_dict rfl) pda_nil))))) (pdw_or (pdt_ne g (pd_len T.n_len (pda_cons (pd_var 0) pda_nil)) (pd_lenP T.D_PARTS T.n_len (pda_cons (pd_glob (v := .ref a.cPARTS) (by rfl) T.g_PARTS rfl (fun _ _ => Is.vv _)) pda_nil))) (pdw_or1 (pdt_not (pdt_val (pd_all g T.n_all (pda_cons (pd_lc (own := ([("part", 1)] : List (Str × Nat))) g (pdi_any (pd_var 0)) (blkOk_of (N := N_check_rule) (sc := (defScope s_check_rule)) (own := ([("part", 1)] : List (Str × Nat))) (by decide +kernel)) (by decide) (fun _ _ _ _ _ => (pdg_nm 1 g.nd)) (fun _ _ _ _ _ g => pdts_nil) (fun _ _ _ _ _ g => (pd_call c_is_word g (pda_cons (pd_var 1) (pda_cons (pd_listP T.D_PARTS g T.n_list (pda_cons (pd_glob (v := .ref a.cPARTS) (by rfl) T.g_PARTS rfl (fun _ _ => Is.vv _)) pda_nil)) pda_nil))))) pda_nil)))))))) (psd_one (psd_raise1 T.x_InvalidRule g (pda_cons pd_str pda_nil))) psd_nil)
    (psd_one (psd_for g.po g.calm (pdi_itemsP T.D_PARTS T.l_PARTS (pd_glob (v := .ref a.cPARTS) (by rfl) T.g_PARTS rfl (fun _ _ => Is.vv _))) (pdg_tp g.calm (pgd_cons 1 g.nd (pgd_cons 2 g.nd pgd_nil))) (psd_one (psd_if (pdt_not (pdt_val (pd_call c_is_word g (pda_cons (pd_ix (pd_var 0) (pd_var 1)) (pda_cons (pd_var 2) pda_nil))))) (psd_one (psd_raise1 T.x_InvalidRule g (pda_cons (pd_var 1) pda_nil))) psd_nil)))))
theorem b_Book_init (T : Txt P K mg w a) (c_check_rule : Cal P w K mg base 4 "check_rule" 1 (ct_check_rule a)) (c_is_integer : Cal P w K mg base 1 "is_integer" 3 (ct_is_integer a)) (c_is_word : Cal P w K mg base 1 "is_word" 2 (ct_is_word a)) : Body P w K mg base "Book.__init__" s_Book_init N_Book_init 4 (r_Book_init a) := by
  intro f cdv A outer s H E g
  unfold r_Book_init
  exact (psd_cons (psd_if (pdt_not (pdt_val (pd_call c_is_integer g (pda_cons (pd_var 1) (pda_cons pd_int (pda_cons pd_int pda_nil)))))) (psd_one (psd_raise0 T.x_InvalidPrices g)) psd_nil)
    (psd_cons (psd_expr (pd_call c_check_rule g (pda_cons (pd_var 2) pda_nil)))
    (psd_cons (psd_if (pdt_w (pdw_or (pdt_not (pdt_val (pd_isT "tuple" T.n_isinstance (pda_cons (pd_var 3) (pda_cons (pd_bltn (v := .ty "tuple") (by rfl) T.n_tuple PyProof.Rows.boot_tuple rfl) pda_nil))))) (pdw_or1 (pdt_not (pdt_val (pd_all g T.n_all (pda_cons (pd_lc (own := ([("word", 5)] : List (Str × Nat))) g (pdi_any (pd_var 3)) (blkOk_of (N := N_Book_init) (sc := (defScope s_Book_init)) (own := ([("word", 5)] : List (Str × Nat))) (by decide +kernel)) (by decide) (fun _ _ _ _ _ => (pdg_nm 5 g.nd)) (fun _ _ _ _ _ g => pdts_nil) (fun _ _ _ _ _ g => (pd_call c_is_word g (pda_cons (pd_var 5) (pda_cons (pd_glob (v := .ref a.cWORDS) (by rfl) T.g_WORDS rfl T.i_WORDS) pda_nil))))) pda_nil))))))) (psd_one (psd_raise0 T.x_InvalidWords g)) psd_nil)
    (psd_cons (psd_if (pdt_ne g (pd_lc (own := ([("word", 5)] : List (Str × Nat))) g (pdi_any (pd_glob (v := .ref a.cWORDS) (by rfl) T.g_WORDS rfl T.i_WORDS)) (blkOk_of (N := N_Book_init) (sc := (defScope s_Book_init)) (own := ([("word", 5)] : List (Str × Nat))) (by decide +kernel)) (by decide) (fun _ _ _ _ _ => (pdg_nm 5 g.nd)) (fun _ _ _ _ _ g => (pdts_one (pdt_in g.hu (pd_var 5) (pd_var 3)))) (fun _ _ _ _ _ g => (pd_var 5))) (pd_listC false g T.n_list (pda_cons (pd_var 3) pda_nil))) (psd_one (psd_raise0 T.x_InvalidWords g)) psd_nil)
    (psd_cons (psd_fld T.at_Book_highest (pd_var 0) (pd_var 1))
    (psd_cons (psd_fld T.at_Book_terms (pd_var 0) (pd_dc (own := ([("part", 4)] : List (Str × Nat))) g (pdi_keysP T.D_PARTS (pd_glob (v := .ref a.cPARTS) (by rfl) T.g_PARTS rfl (fun _ _ => Is.vv _))) (blkOk_of (N := N_Book_init) (sc := (defScope s_Book_init)) (own := ([("part", 4)] : List (Str × Nat))) (by decide +kernel)) (by decide) (fun _ _ _ _ _ => (pdg_nm 4 g.nd)) (fun _ _ _ _ _ g => pdts_nil) (fun _ _ _ _ _ g => (pd_var 4)) (fun _ _ _ _ _ g => (pd_ix (pd_var 2) (pd_var 4)))))
    (psd_one (psd_fld T.at_Book_kinds (pd_var 0) (pd_var 3)))))))))
theorem b_Book_p_prices (T : Txt P K mg w a)  : Body P w K mg base "Book.prices" s_Book_p_prices N_Book_p_prices 0 (r_Book_p_prices a) := by
  intro f cdv A outer s H E g
  unfold r_Book_p_prices
  exact (psd_one (psd_ret (pd_fld T.at_Book_highest (pd_var 0))))
theorem b_Book_p_rule (T : Txt P K mg w a)  : Body P w K mg base "Book.rule" s_Book_p_rule N_Book_p_rule 0 (r_Book_p_rule a) := by
  intro f cdv A outer s H E g
  unfold r_Book_p_rule
  exact (psd_one (psd_ret (pd_frz (pd_dictC T.n_dict (pda_cons (pd_fld T.at_Book_terms (pd_var 0)) pda_nil)))))
theorem b_Book_p_words (T : Txt P K mg w a)  : Body P w K mg base "Book.words" s_Book_p_words N_Book_p_words 0 (r_Book_p_words a) := by
  intro f cdv A outer s H E g
  unfold r_Book_p_words
  exact (psd_one (psd_ret (pd_fld T.at_Book_kinds (pd_var 0))))
theorem b_Book_t_changed (T : Txt P K mg w a) (c_is_word : Cal P w K mg base 1 "is_word" 2 (ct_is_word a)) (m_Book : Cml P w K mg base 5 "Book" a.kBook 3 (cm_Book a)) : Body P w K mg base "Book.changed" s_Book_t_changed N_Book_t_changed 6 (r_Book_t_changed a) := by
  intro f cdv A outer s H E g
  unfold r_Book_t_changed
  exact (psd_cons (psd_if (pdt_not (pdt_val (pd_call c_is_word g (pda_cons (pd_var 1) (pda_cons (pd_listP T.D_PARTS g T.n_list (pda_cons (pd_glob (v := .ref a.cPARTS) (by rfl) T.g_PARTS rfl (fun _ _ => Is.vv _)) pda_nil)) pda_nil))))) (psd_one (psd_raise1 T.x_InvalidRule g (pda_cons pd_str pda_nil))) psd_nil)
    (psd_one (psd_ret (pd_makeX m_Book g (pda_cons (pd_fld T.at_Book_highest (pd_var 0)) (pda_cons (pd_frz (pd_stars (pd_fld T.at_Book_terms (pd_var 0)) (pd_var 1) (pd_var 2))) (pda_cons (pd_fld T.at_Book_kinds (pd_var 0)) pda_nil)))))))
theorem b_Book_eq (T : Txt P K mg w a)  : Body P w K mg base "Book.__eq__" s_Book_eq N_Book_eq 0 (r_Book_eq a) := by
  intro f cdv A outer s H E g
  unfold r_Book_eq
  exact (psd_cons (psd_if (pdt_not (pdt_val (pd_isK T.n_isinstance T.is_Book (pda_cons (pd_var 1) (pda_cons (pd_glob (v := .ref a.kBook) (by rfl) T.g_Book rfl (fun _ _ => Is.vv _)) pda_nil))))) (psd_one (psd_ret pd_bl)) psd_nil)
    (psd_one (psd_ret (pd_eqG g (pd_tup (pda_cons (pd_fld T.at_Book_highest (pd_var 0)) (pda_cons (pd_fld T.at_Book_terms (pd_var 0)) (pda_cons (pd_fld T.at_Book_kinds (pd_var 0)) pda_nil)))) (pd_tup (pda_cons (pd_fld T.at_Book_highest (pd_var 1)) (pda_cons (pd_fld T.at_Book_terms (pd_var 1)) (pda_cons (pd_fld T.at_Book_kinds (pd_var 1)) pda_nil))))))))
theorem b_law_mix (T : Txt P K mg w a)  : Body P w K mg base "_law_mix" s_law_mix N_law_mix 0 (r_law_mix a) := by
  intro f cdv A outer s H E g
  unfold r_law_mix
  exact (psd_cons (psd_set 2 g.nd (pd_var 1))
    (psd_cons (psd_for g.po g.calm (pdi_any (pd_var 0)) (pdg_nm 3 g.nd) (psd_one (psd_set 2 g.nd (pd_mod (pd_intC T.n_int (pda_cons (pd_add (pd_add (pd_mul (pd_var 2) pd_int) (pd_mod (pd_intC T.n_int (pda_cons (pd_var 3) pda_nil)) pd_int)) pd_int) pda_nil)) pd_int))))
    (psd_one (psd_ret (pd_lstM (pda_cons (pd_var 2) (pda_cons (pd_listC true g T.n_list (pda_cons (pd_var 0) pda_nil)) (pda_cons pd_int pda_nil))))))))
theorem b_law_next (T : Txt P K mg w a)  : Body P w K mg base "_law_next" s_law_next N_law_next 0 (r_law_next a) := by
  intro f cdv A outer s H E g
  unfold r_law_next
  exact (psd_cons (psd_set 2 g.nd (pd_ix (pd_add (pd_ix (pd_var 0) pd_int) (pd_lst (pda_cons pd_int pda_nil))) (pd_mod (pd_intC T.n_int (pda_cons (pd_ix (pd_var 0) pd_int) pda_nil)) (pd_max2 g T.n_max (pda_cons pd_int (pda_cons (pd_len T.n_len (pda_cons (pd_ix (pd_var 0) pd_int) pda_nil)) pda_nil))))))
    (psd_cons (psd_if (pdt_ge (pd_var 2) (pd_pow pd_int pd_int)) (psd_cons (psd_asgD (pd_fdiv (pd_var 2) (pd_var 1)) (pgd_sub g.hu (pd_ix (pd_var 0) pd_int) (pd_mod (pd_intC T.n_int (pda_cons (pd_ix (pd_var 0) pd_int) pda_nil)) (pd_len T.n_len (pda_cons (pd_ix (pd_var 0) pd_int) pda_nil)))))
    (psd_one (psd_ret (pd_mod (pd_intC T.n_int (pda_cons (pd_var 2) pda_nil)) (pd_var 1))))) psd_nil)
    (psd_cons (psd_asgD (pd_mod (pd_intC T.n_int (pda_cons (pd_add (pd_add (pd_mul (pd_ix (pd_var 0) pd_int) pd_int) (pd_mul (pd_var 2) pd_int)) pd_int) pda_nil)) pd_int) (pgd_sub g.hu (pd_var 0) pd_int))
    (psd_cons (psd_asgD (pd_add (pd_ix (pd_var 0) pd_int) pd_int) (pgd_sub g.hu (pd_var 0) pd_int))
    (psd_one (psd_ret (pd_mod (pd_intC T.n_int (pda_cons (pd_fdiv (pd_ix (pd_var 0) pd_int) pd_int) pda_nil)) (pd_var 1))))))))
theorem b_law_alike (T : Txt P K mg w a) {l : Nat} {rec : Ct} (hl : 0 ≤ l) (c_rec : Cal P w K mg base l "_law_alike" 2 rec)  : Body P w K mg base "_law_alike" s_law_alike N_law_alike l (r_law_alike a rec) := by
  intro f cdv A outer s H E g
  unfold r_law_alike
  exact (psd_cons (psd_if (pdt_val (pd_isT "dict" T.n_isinstance (pda_cons (pd_var 1) (pda_cons (pd_bltn (v := .ty "dict") (by rfl) T.n_dict PyProof.Rows.boot_dict rfl) pda_nil)))) (psd_one (psd_ret (pd_and (pd_isT "dict" T.n_isinstance (pda_cons (pd_var 0) (pda_cons (pd_bltn (v := .ty "dict") (by rfl) T.n_dict PyProof.Rows.boot_dict rfl) pda_nil))) (pd_and (pd_call c_rec g (pda_cons (pd_listC false g T.n_list (pda_cons (pd_var 0) pda_nil)) (pda_cons (pd_listC false g T.n_list (pda_cons (pd_var 1) pda_nil)) pda_nil)) (by omega)) (pd_one (pd_eqG g (pd_var 0) (pd_var 1))))))) psd_nil)
    (psd_cons (psd_if (pdt_val (pd_isTs "tuple" "list" T.n_isinstance T.n_tuple T.n_list PyProof.Rows.boot_tuple PyProof.Rows.boot_list (pd_var 1))) (psd_cons (psd_if (pdt_w (pdw_or (pdt_not (pdt_val (pd_isTs "tuple" "list" T.n_isinstance T.n_tuple T.n_list PyProof.Rows.boot_tuple PyProof.Rows.boot_list (pd_var 0)))) (pdw_or1 (pdt_ne g (pd_isT "list" T.n_isinstance (pda_cons (pd_var 0) (pda_cons (pd_bltn (v := .ty "list") (by rfl) T.n_list PyProof.Rows.boot_list rfl) pda_nil))) (pd_isT "list" T.n_isinstance (pda_cons (pd_var 1) (pda_cons (pd_bltn (v := .ty "list") (by rfl) T.n_list PyProof.Rows.boot_list rfl) pda_nil))))))) (psd_one (psd_ret pd_bl)) psd_nil)
    (psd_cons (psd_if (pdt_ne g (pd_len T.n_len (pda_cons (pd_var 0) pda_nil)) (pd_len T.n_len (pda_cons (pd_var 1) pda_nil))) (psd_one (psd_ret pd_bl)) psd_nil)
    (psd_one (psd_ret (pd_eq g (pd_lc (own := ([("_law_k", 2)] : List (Str × Nat))) g (pdi_range1 (by rfl) T.n_range (pda_cons (pd_len T.n_len (pda_cons (pd_var 1) pda_nil)) pda_nil)) (blkOk_of (N := N_law_alike) (sc := (defScope s_law_alike)) (own := ([("_law_k", 2)] : List (Str × Nat))) (by decide +kernel)) (by decide) (fun _ _ _ _ _ => (pdg_nm 2 g.nd)) (fun _ _ _ _ _ g => (pdts_one (pdt_not (pdt_val (pd_call c_rec g (pda_cons (pd_ix (pd_var 0) (pd_var 2)) (pda_cons (pd_ix (pd_var 1) (pd_var 2)) pda_nil)) (by omega)))))) (fun _ _ _ _ _ g => (pd_var 2))) (pd_lst pda_nil)))))) psd_nil)
    (psd_cons (psd_if (pdt_w (pdw_or (pdt_is (pd_var 1) pd_non) (pdw_or1 (pdt_val (pd_isT "str" T.n_isinstance (pda_cons (pd_var 1) (pda_cons (pd_bltn (v := .ty "str") (by rfl) T.n_str PyProof.Rows.boot_str rfl) pda_nil))))))) (psd_one (psd_ret (pd_and (pd_eqG g (pd_var 0) (pd_var 1)) (pd_one (pd_eq g (pd_isT "str" T.n_isinstance (pda_cons (pd_var 0) (pda_cons (pd_bltn (v := .ty "str") (by rfl) T.n_str PyProof.Rows.boot_str rfl) pda_nil))) (pd_isT "str" T.n_isinstance (pda_cons (pd_var 1) (pda_cons (pd_bltn (v := .ty "str") (by rfl) T.n_str PyProof.Rows.boot_str rfl) pda_nil)))))))) psd_nil)
    (psd_one (psd_ret (pd_and (pd_isT "int" T.n_isinstance (pda_cons (pd_var 0) (pda_cons (pd_bltn (v := .ty "int") (by rfl) T.n_int PyProof.Rows.boot_int rfl) pda_nil))) (pd_and (pd_eq g (pd_isT "bool" T.n_isinstance (pda_cons (pd_var 0) (pda_cons (pd_bltn (v := .ty "bool") (by rfl) T.n_bool PyProof.Rows.boot_bool rfl) pda_nil))) (pd_isT "bool" T.n_isinstance (pda_cons (pd_var 1) (pda_cons (pd_bltn (v := .ty "bool") (by rfl) T.n_bool PyProof.Rows.boot_bool rfl) pda_nil)))) (pd_one (pd_eqG g (pd_var 0) (pd_var 1))))))))))
theorem b_law_pick (T : Txt P K mg w a) (c__law_next : Cal P w K mg base 1 "_law_next" 2 (ct__law_next a)) : Body P w K mg base "_law_pick" s_law_pick N_law_pick 1 (r_law_pick a) := by
  intro f cdv A outer s H E g
  unfold r_law_pick
  exact (psd_one (psd_ret (pd_ix (pd_var 1) (pd_call c__law_next g (pda_cons (pd_var 0) (pda_cons (pd_len T.n_len (pda_cons (pd_var 1) pda_nil)) pda_nil))))))
theorem b_law_parts (T : Txt P K mg w a)  : Body P w K mg base "_law_parts" s_law_parts N_law_parts 0 (r_law_parts a) := by
  intro f cdv A outer s H E g
  unfold r_law_parts
  exact (psd_cons (psd_set 0 g.nd (pd_lstM (pda_cons (pd_lst (pda_cons pd_str (pda_cons pd_str (pda_cons pd_str pda_nil)))) (pda_cons (pd_lst (pda_cons pd_str (pda_cons pd_str (pda_cons pd_str pda_nil)))) (pda_cons (pd_lst (pda_cons pd_str (pda_cons pd_str (pda_cons pd_str pda_nil)))) pda_nil)))))
    (psd_cons (psd_expr (pd_append (pd_var 0) (pda_cons (pd_lst (pda_cons pd_str (pda_cons pd_str (pda_cons pd_str (pda_cons pd_str pda_nil))))) pda_nil)))
    (psd_one (psd_ret (pd_add (pd_var 0) (pd_lst (pda_cons (pd_lst (pda_cons pd_str (pda_cons pd_str (pda_cons pd_str pda_nil)))) (pda_cons (pd_lst (pda_cons pd_str (pda_cons pd_str (pda_cons pd_str pda_nil)))) pda_nil))))))))
theorem b_law_rule (T : Txt P K mg w a) (c__law_next : Cal P w K mg base 1 "_law_next" 2 (ct__law_next a)) (c__law_parts : Cal P w K mg base 1 "_law_parts" 0 (ct__law_parts a)) (c__law_pick : Cal P w K mg base 2 "_law_pick" 2 (ct__law_pick a)) : Body P w K mg base "_law_rule" s_law_rule N_law_rule 2 (r_law_rule a) := by
  intro f cdv A outer s H E g
  unfold r_law_rule
  exact (psd_cons (psd_set 1 g.nd pd_dnew)
    (psd_cons (psd_for g.po g.calm (pdi_any (pd_call0 c__law_parts g)) (pdg_nm 2 g.nd) (psd_one (psd_asgD (pd_call c__law_pick g (pda_cons (pd_var 0) (pda_cons (pd_slice (pd_var 2) (pdo_some pd_int) pdo_none) pda_nil))) (pgd_sub g.hu (pd_var 1) (pd_ix (pd_var 2) pd_int)))))
    (psd_cons (psd_if (pdt_eq g (pd_call c__law_next g (pda_cons (pd_var 0) (pda_cons pd_int pda_nil))) pd_int) (psd_one (psd_asgD pd_str (pgd_sub g.hu (pd_var 1) pd_str))) psd_nil)
    (psd_one (psd_ret (pd_var 1))))))
theorem b_law_words (T : Txt P K mg w a) (c__law_next : Cal P w K mg base 1 "_law_next" 2 (ct__law_next a)) (c__law_pick : Cal P w K mg base 2 "_law_pick" 2 (ct__law_pick a)) : Body P w K mg base "_law_words" s_law_words N_law_words 2 (r_law_words a) := by
  intro f cdv A outer s H E g
  unfold r_law_words
  exact (psd_cons (psd_set 2 g.nd (pd_lst (pda_cons pd_str (pda_cons pd_str (pda_cons pd_str (pda_cons pd_str (pda_cons pd_str (pda_cons pd_str pda_nil))))))))
    (psd_cons (psd_set 3 g.nd (pd_lc (own := ([("_law_k", 4)] : List (Str × Nat))) g (pdi_range1 (by rfl) T.n_range (pda_cons (pd_call c__law_next g (pda_cons (pd_var 0) (pda_cons (pd_add (pd_var 1) pd_int) pda_nil))) pda_nil)) (blkOk_of (N := N_law_words) (sc := (defScope s_law_words)) (own := ([("_law_k", 4)] : List (Str × Nat))) (by decide +kernel)) (by decide) (fun _ _ _ _ _ => (pdg_nm 4 g.nd)) (fun _ _ _ _ _ g => pdts_nil) (fun _ _ _ _ _ g => (pd_call c__law_pick g (pda_cons (pd_var 0) (pda_cons (pd_var 2) pda_nil))))))
    (psd_one (psd_ret (pd_tupC T.n_tuple (pda_cons (pd_lc (own := ([("_law_word", 5)] : List (Str × Nat))) g (pdi_any (pd_var 2)) (blkOk_of (N := N_law_words) (sc := (defScope s_law_words)) (own := ([("_law_word", 5)] : List (Str × Nat))) (by decide +kernel)) (by decide) (fun _ _ _ _ _ => (pdg_nm 5 g.nd)) (fun _ _ _ _ _ g => (pdts_one (pdt_in g.hu (pd_var 5) (pd_var 3)))) (fun _ _ _ _ _ g => (pd_var 5))) pda_nil))))))
theorem b_law_with (T : Txt P K mg w a)  : Body P w K mg base "_law_with" s_law_with N_law_with 0 (r_law_with a) := by
  intro f cdv A outer s H E g
  unfold r_law_with
  exact (psd_cons (psd_set 3 g.nd (pd_dictC T.n_dict (pda_cons (pd_var 0) pda_nil)))
    (psd_cons (psd_asgD (pd_var 2) (pgd_sub g.hu (pd_var 3) (pd_var 1)))
    (psd_one (psd_ret (pd_frz (pd_var 3))))))
theorem b_law_draw (T : Txt P K mg w a) (c__law_rule : Cal P w K mg base 3 "_law_rule" 1 (ct__law_rule a)) (c__law_words : Cal P w K mg base 3 "_law_words" 2 (ct__law_words a)) : Body P w K mg base "_law_draw" s_law_draw N_law_draw 3 (r_law_draw a) := by
  intro f cdv A outer s H E g
  unfold r_law_draw
  exact (psd_one (psd_ret (pd_lstM (pda_cons pd_int (pda_cons (pd_call c__law_rule g (pda_cons (pd_var 0) pda_nil)) (pda_cons (pd_call c__law_words g (pda_cons (pd_var 0) (pda_cons pd_int pda_nil))) pda_nil))))))
theorem b_law_built (T : Txt P K mg w a) (m_Book : Cml P w K mg base 5 "Book" a.kBook 3 (cm_Book a)) : Body P w K mg base "_law_built" s_law_built N_law_built 6 (r_law_built a) := by
  intro f cdv A outer s H E g
  unfold r_law_built
  exact (psd_one (psd_ret (pd_makeX m_Book g (pda_cons (pd_ix (pd_var 0) pd_int) (pda_cons (pd_ix (pd_var 0) pd_int) (pda_cons (pd_ix (pd_var 0) pd_int) pda_nil))))))
theorem b_law_rule_fault (T : Txt P K mg w a) (c__law_parts : Cal P w K mg base 1 "_law_parts" 0 (ct__law_parts a)) : Body P w K mg base "_law_rule_fault" s_law_rule_fault N_law_rule_fault 1 (r_law_rule_fault a) := by
  intro f cdv A outer s H E g
  unfold r_law_rule_fault
  exact (psd_cons (psd_setLc 1 (own := ([("_law_row", 2)] : List (Str × Nat))) g (by rfl) (pdi_any (pd_call0 c__law_parts g)) (blkOk_of (N := N_law_rule_fault) (sc := (defScope s_law_rule_fault)) (own := ([("_law_row", 2)] : List (Str × Nat))) (by decide +kernel)) (by decide) (fun _ _ _ _ _ => (pdg_nm 2 g.nd)) (fun _ _ _ _ _ g => pdts_nil) (fun _ _ _ _ _ g => (pd_reprC T.n_repr (pda_cons (pd_ix (pd_var 2) pd_int) pda_nil))))
    (psd_cons (psd_if (pdt_w (pdw_or (pdt_not (pdt_val (pd_isT "dict" T.n_isinstance (pda_cons (pd_var 0) (pda_cons (pd_bltn (v := .ty "dict") (by rfl) T.n_dict PyProof.Rows.boot_dict rfl) pda_nil))))) (pdw_or1 (pdt_ne g (pd_sort false g T.n_sorted (pda_cons (pd_lc (own := ([("_law_name", 3)] : List (Str × Nat))) g (pdi_any (pd_var 0)) (blkOk_of (N := N_law_rule_fault) (sc := (defScope s_law_rule_fault)) (own := ([("_law_name", 3)] : List (Str × Nat))) (by decide +kernel)) (by decide) (fun _ _ _ _ _ => (pdg_nm 3 g.nd)) (fun _ _ _ _ _ g => pdts_nil) (fun _ _ _ _ _ g => (pd_reprC T.n_repr (pda_cons (pd_var 3) pda_nil)))) pda_nil)) (pd_var 1))))) (psd_one (psd_ret pd_str)) psd_nil)
    (psd_cons (psd_for g.po g.calm (pdi_any (pd_call0 c__law_parts g)) (pdg_nm 2 g.nd) (psd_one (psd_if (pdt_w (pdw_or (pdt_not (pdt_val (pd_isT "str" T.n_isinstance (pda_cons (pd_ix (pd_var 0) (pd_ix (pd_var 2) pd_int)) (pda_cons (pd_bltn (v := .ty "str") (by rfl) T.n_str PyProof.Rows.boot_str rfl) pda_nil))))) (pdw_or1 (pdt_notIn g.hu (pd_ix (pd_var 0) (pd_ix (pd_var 2) pd_int)) (pd_slice (pd_var 2) (pdo_some pd_int) pdo_none))))) (psd_one (psd_ret (pd_ix (pd_var 2) pd_int))) psd_nil)))
    (psd_one (psd_ret pd_non)))))
theorem b_law_fault (T : Txt P K mg w a) (c__law_rule_fault : Cal P w K mg base 2 "_law_rule_fault" 1 (ct__law_rule_fault a)) : Body P w K mg base "_law_fault" s_law_fault N_law_fault 2 (r_law_fault a) := by
  intro f cdv A outer s H E g
  unfold r_law_fault
  exact (psd_cons (psd_if (pdt_w (pdw_or (pdt_val (pd_isT "bool" T.n_isinstance (pda_cons (pd_ix (pd_var 0) pd_int) (pda_cons (pd_bltn (v := .ty "bool") (by rfl) T.n_bool PyProof.Rows.boot_bool rfl) pda_nil)))) (pdw_or (pdt_not (pdt_val (pd_isT "int" T.n_isinstance (pda_cons (pd_ix (pd_var 0) pd_int) (pda_cons (pd_bltn (v := .ty "int") (by rfl) T.n_int PyProof.Rows.boot_int rfl) pda_nil))))) (pdw_or1 (pdt_notIn g.hu (pd_ix (pd_var 0) pd_int) (pd_lst (pda_cons pd_int (pda_cons pd_int pda_nil)))))))) (psd_one (psd_ret pd_str)) psd_nil)
    (psd_cons (psd_if (pdt_isnot (pd_call c__law_rule_fault g (pda_cons (pd_ix (pd_var 0) pd_int) pda_nil)) pd_non) (psd_one (psd_ret (pd_tup (pda_cons pd_str (pda_cons (pd_call c__law_rule_fault g (pda_cons (pd_ix (pd_var 0) pd_int) pda_nil)) pda_nil))))) psd_nil)
    (psd_cons (psd_set 1 g.nd (pd_lst (pda_cons pd_str (pda_cons pd_str (pda_cons pd_str (pda_cons pd_str (pda_cons pd_str (pda_cons pd_str pda_nil))))))))
    (psd_cons (psd_if (pdt_w (pdw_or (pdt_not (pdt_val (pd_isT "tuple" T.n_isinstance (pda_cons (pd_ix (pd_var 0) pd_int) (pda_cons (pd_bltn (v := .ty "tuple") (by rfl) T.n_tuple PyProof.Rows.boot_tuple rfl) pda_nil))))) (pdw_or1 (pdt_ne g (pd_lc (own := ([("_law_word", 2)] : List (Str × Nat))) g (pdi_any (pd_var 1)) (blkOk_of (N := N_law_fault) (sc := (defScope s_law_fault)) (own := ([("_law_word", 2)] : List (Str × Nat))) (by decide +kernel)) (by decide) (fun _ _ _ _ _ => (pdg_nm 2 g.nd)) (fun _ _ _ _ _ g => (pdts_one (pdt_in g.hu (pd_var 2) (pd_ix (pd_var 0) pd_int)))) (fun _ _ _ _ _ g => (pd_var 2))) (pd_listC false g T.n_list (pda_cons (pd_ix (pd_var 0) pd_int) pda_nil)))))) (psd_one (psd_ret pd_str)) psd_nil)
    (psd_one (psd_ret pd_non))))))
theorem b_law_tried (T : Txt P K mg w a) (c__law_built : Cal P w K mg base 7 "_law_built" 1 (ct__law_built a)) (t_Book_changed : Cmt P w K mg base 7 a.kBook "changed" 2 (cu_Book_changed a)) : Body P w K mg base "_law_tried" s_law_tried N_law_tried 7 (r_law_tried a) := by
  intro f cdv A outer s H E g
  unfold r_law_tried
  exact (psd_cons (psd_set 4 g.nd pd_non)
    (psd_cons (psd_try g (fun W' pn xe g => (psd_one (psd_set 4 g.nd (pd_if (pdt_is (pd_var 0) pd_non) (pd_call c__law_built g (pda_cons (pd_var 1) pda_nil)) (pd_meth t_Book_changed g (pd_var 0) (pda_cons (pd_var 2) (pda_cons (pd_var 3) pda_nil))))))) (.named 5 ⟨by rfl, by decide, .inl T.gx_InvalidPrices⟩ (mof_ok (m1 T.e_InvalidPrices_InvalidPrices (m1 T.e_InvalidRule_InvalidPrices (m1 T.e_InvalidWords_InvalidPrices m0)))) (by rfl) (by rfl) (pxs_set 4 g.nd (pxe_if (hN_of T.xs_InvalidPrices T.ki_InvalidPrices_FindError) T.n_isinstance T.gx_FindError pxe_str)) (.named 5 ⟨by rfl, by decide, .inl T.gx_InvalidRule⟩ (mof_ok (m1 T.e_InvalidPrices_InvalidRule (m1 T.e_InvalidRule_InvalidRule (m1 T.e_InvalidWords_InvalidRule m0)))) (by rfl) (by rfl) (pxs_set 4 g.nd (pxe_tup2 pxe_str (pxe_fld T.xf_InvalidRule T.no_InvalidRule_part (j := 5)))) (.bare ⟨by rfl, by decide, .inl T.gx_InvalidWords⟩ (mof_ok (m1 T.e_InvalidPrices_InvalidWords (m1 T.e_InvalidRule_InvalidWords (m1 T.e_InvalidWords_InvalidWords m0)))) (pxs_set 4 g.nd pxe_str) .nil))))
    (psd_one (psd_ret (pd_var 4)))))
theorem b_law_spoiled (T : Txt P K mg w a) (c__law_next : Cal P w K mg base 1 "_law_next" 2 (ct__law_next a)) (c__law_parts : Cal P w K mg base 1 "_law_parts" 0 (ct__law_parts a)) (c__law_pick : Cal P w K mg base 2 "_law_pick" 2 (ct__law_pick a)) : Body P w K mg base "_law_spoiled" s_law_spoiled N_law_spoiled 2 (r_law_spoiled a) := by
  intro f cdv A outer s H E g
  unfold r_law_spoiled
  exact (psd_cons (psd_for g.po g.calm (pdi_range1 (by rfl) T.n_range (pda_cons (pd_call c__law_next g (pda_cons (pd_var 0) (pda_cons pd_int pda_nil))) pda_nil)) (pdg_nm 2 g.nd) (psd_cons (psd_set 3 g.nd (pd_call c__law_next g (pda_cons (pd_var 0) (pda_cons pd_int pda_nil))))
    (psd_one (psd_if (pdt_eq g (pd_var 3) pd_int) (psd_one (psd_asgD (pd_call c__law_pick g (pda_cons (pd_var 0) (pda_cons (pd_lst (pda_cons pd_int (pda_cons pd_int (pda_cons pd_int (pda_cons pd_neg (pda_cons pd_non (pda_cons pd_bl (pda_cons pd_str (pda_cons (pd_tup (pda_cons pd_int pda_nil)) (pda_cons (pd_lst (pda_cons pd_int pda_nil)) pda_nil)))))))))) pda_nil))) (pgd_sub g.hu (pd_var 1) pd_int))) (psd_one (psd_if (pdt_eq g (pd_var 3) pd_int) (psd_cons (psd_par 4 5 g.calm g.nd (pda_cons (pd_call c__law_next g (pda_cons (pd_var 0) (pda_cons pd_int pda_nil))) (pda_cons (pd_ix (pd_call c__law_pick g (pda_cons (pd_var 0) (pda_cons (pd_call0 c__law_parts g) pda_nil))) pd_int) pda_nil)))
    (psd_one (psd_if (pdt_eq g (pd_var 4) pd_int) (psd_one (psd_asgD (pd_call c__law_pick g (pda_cons (pd_var 0) (pda_cons (pd_lst (pda_cons pd_non (pda_cons (pd_lst pda_nil) (pda_cons pd_str (pda_cons pd_dnew (pda_cons pd_int (pda_cons (pd_disp (pdp_cons (z := "lost") pd_str pdp_nil)) pda_nil))))))) pda_nil))) (pgd_sub g.hu (pd_var 1) pd_int))) (psd_one (psd_if (pdt_val (pd_isT "dict" T.n_isinstance (pda_cons (pd_ix (pd_var 1) pd_int) (pda_cons (pd_bltn (v := .ty "dict") (by rfl) T.n_dict PyProof.Rows.boot_dict rfl) pda_nil)))) (psd_one (psd_asgD (pd_call c__law_pick g (pda_cons (pd_var 0) (pda_cons (pd_lst (pda_cons pd_str (pda_cons pd_str (pda_cons pd_non (pda_cons pd_bl (pda_cons pd_str (pda_cons (pd_lst (pda_cons pd_str pda_nil)) (pda_cons pd_str (pda_cons pd_int pda_nil))))))))) pda_nil))) (pgd_sub g.hu (pd_ix (pd_var 1) pd_int) (pd_var 5)))) psd_nil))))) (psd_cons (psd_set 6 g.nd (pd_lst (pda_cons pd_non (pda_cons (pd_lst (pda_cons pd_str pda_nil)) (pda_cons (pd_tup (pda_cons pd_str (pda_cons pd_str pda_nil))) (pda_cons (pd_tup (pda_cons pd_str (pda_cons pd_str pda_nil))) (pda_cons (pd_tup (pda_cons pd_str pda_nil)) pda_nil)))))))
    (psd_cons (psd_set 6 g.nd (pd_add (pd_var 6) (pd_lst (pda_cons pd_str (pda_cons (pd_tup (pda_cons pd_str (pda_cons pd_int pda_nil))) (pda_cons (pd_tup (pda_cons pd_str pda_nil)) pda_nil))))))
    (psd_one (psd_asgD (pd_call c__law_pick g (pda_cons (pd_var 0) (pda_cons (pd_var 6) pda_nil))) (pgd_sub g.hu (pd_var 1) pd_int)))))))))))
    (psd_one (psd_ret (pd_fzl (pd_frz1 1 (pd_var 1))))))
theorem b_law (T : Txt P K mg w a) (c__law_alike : Cal P w K mg base 4 "_law_alike" 2 (ct__law_alike a)) (c__law_built : Cal P w K mg base 7 "_law_built" 1 (ct__law_built a)) (c__law_draw : Cal P w K mg base 4 "_law_draw" 1 (ct__law_draw a)) (c__law_fault : Cal P w K mg base 3 "_law_fault" 1 (ct__law_fault a)) (c__law_mix : Cal P w K mg base 1 "_law_mix" 2 (ct__law_mix a)) (c__law_next : Cal P w K mg base 1 "_law_next" 2 (ct__law_next a)) (c__law_parts : Cal P w K mg base 1 "_law_parts" 0 (ct__law_parts a)) (c__law_pick : Cal P w K mg base 2 "_law_pick" 2 (ct__law_pick a)) (c__law_rule_fault : Cal P w K mg base 2 "_law_rule_fault" 1 (ct__law_rule_fault a)) (c__law_spoiled : Cal P w K mg base 3 "_law_spoiled" 2 (ct__law_spoiled a)) (c__law_tried : Cal P w K mg base 8 "_law_tried" 4 (ct__law_tried a)) (c__law_with : Cal P w K mg base 1 "_law_with" 3 (ct__law_with a)) (m_Book : Cml P w K mg base 5 "Book" a.kBook 3 (cm_Book a)) (p_Book_prices : Cpr P w K mg base 1 a.kBook "prices" (cp_Book_prices a)) (p_Book_rule : Cpr P w K mg base 1 a.kBook "rule" (cp_Book_rule a)) (p_Book_words : Cpr P w K mg base 1 a.kBook "words" (cp_Book_words a)) (q_Book : Ceq P w K mg base 1 a.kBook (cq_Book a)) : Body P w K mg base "law" s_law N_law 8 (r_law a) := by
  intro f cdv A outer s H E g
  unfold r_law
  exact (psd_cons (psd_set 1 g.nd (pd_call c__law_mix g (pda_cons (pd_var 0) (pda_cons pd_int pda_nil))))
    (psd_cons (psd_for g.po g.calm (pdi_range1 (by rfl) T.n_range (pda_cons pd_int pda_nil)) (pdg_nm 2 g.nd) (psd_cons (psd_set 3 g.nd (pd_call c__law_draw g (pda_cons (pd_var 1) pda_nil)))
    (psd_cons (psd_asgD (pd_add pd_int (pd_call c__law_next g (pda_cons (pd_var 1) (pda_cons pd_int pda_nil)))) (pgd_sub g.hu (pd_var 3) pd_int))
    (psd_cons (psd_set 3 g.nd (pd_call c__law_spoiled g (pda_cons (pd_var 1) (pda_cons (pd_var 3) pda_nil))))
    (psd_cons (psd_par 4 5 g.calm g.nd (pda_cons (pd_call c__law_tried g (pda_cons pd_non (pda_cons (pd_var 3) (pda_cons pd_non (pda_cons pd_non pda_nil))))) (pda_cons (pd_call c__law_fault g (pda_cons (pd_var 3) pda_nil)) pda_nil)))
    (psd_one (psd_if (pdt_isnot (pd_var 5) pd_non) (psd_one (psd_if (pdt_not (pdt_val (pd_call c__law_alike g (pda_cons (pd_var 4) (pda_cons (pd_var 5) pda_nil))))) (psd_one (psd_ret pd_bl)) psd_nil)) (psd_cons (psd_if (pdt_not (pdt_val (pd_call c__law_alike g (pda_cons (pd_lst (pda_cons (pd_prop p_Book_prices g (pd_var 4)) (pda_cons (pd_prop p_Book_rule g (pd_var 4)) (pda_cons (pd_prop p_Book_words g (pd_var 4)) pda_nil)))) (pda_cons (pd_var 3) pda_nil))))) (psd_one (psd_ret pd_bl)) psd_nil)
    (psd_cons (psd_if (pdt_w (pdw_or (pdt_not (pdt_own q_Book g (pd_var 4) (pd_call c__law_built g (pda_cons (pd_var 3) pda_nil)))) (pdw_or (pdt_ownL q_Book g (pd_var 4) (pd_var 3)) (pdw_or1 (pdt_own q_Book g (pd_var 4) (pd_makeX m_Book g (pda_cons (pd_sub pd_int (pd_ix (pd_var 3) pd_int)) (pda_cons (pd_ix (pd_var 3) pd_int) (pda_cons (pd_ix (pd_var 3) pd_int) pda_nil))))))))) (psd_one (psd_ret pd_bl)) psd_nil)
    (psd_cons (psd_set 6 g.nd (pd_call c__law_pick g (pda_cons (pd_var 1) (pda_cons (pd_add (pd_lc (own := ([("_law_some", 9)] : List (Str × Nat))) g (pdi_any (pd_call0 c__law_parts g)) (blkOk_of (N := N_law) (sc := (defScope s_law)) (own := ([("_law_some", 9)] : List (Str × Nat))) (by decide +kernel)) (by decide) (fun _ _ _ _ _ => (pdg_nm 9 g.nd)) (fun _ _ _ _ _ g => pdts_nil) (fun _ _ _ _ _ g => (pd_ix (pd_var 9) pd_int))) (pd_lst (pda_cons pd_str (pda_cons pd_str (pda_cons pd_non (pda_cons pd_int (pda_cons pd_str (pda_cons (pd_lst (pda_cons pd_str pda_nil)) pda_nil)))))))) pda_nil))))
    (psd_cons (psd_set 7 g.nd (pd_call c__law_pick g (pda_cons (pd_var 1) (pda_cons (pd_lst (pda_cons pd_str (pda_cons pd_str (pda_cons pd_str (pda_cons pd_str (pda_cons pd_str (pda_cons pd_str (pda_cons pd_str (pda_cons pd_str (pda_cons pd_str (pda_cons pd_non (pda_cons pd_int pda_nil)))))))))))) pda_nil))))
    (psd_cons (psd_set 8 g.nd (pd_call c__law_tried g (pda_cons (pd_var 4) (pda_cons pd_non (pda_cons (pd_var 6) (pda_cons (pd_var 7) pda_nil))))))
    (psd_one (psd_if (pdt_w (pdw_or (pdt_not (pdt_val (pd_isT "str" T.n_isinstance (pda_cons (pd_var 6) (pda_cons (pd_bltn (v := .ty "str") (by rfl) T.n_str PyProof.Rows.boot_str rfl) pda_nil))))) (pdw_or1 (pdt_notIn g.hu (pd_var 6) (pd_ix (pd_var 3) pd_int))))) (psd_one (psd_if (pdt_not (pdt_val (pd_call c__law_alike g (pda_cons (pd_var 8) (pda_cons (pd_tup (pda_cons pd_str (pda_cons pd_str pda_nil))) pda_nil))))) (psd_one (psd_ret pd_bl)) psd_nil)) (psd_one (psd_if (pdt_isnot (pd_call c__law_rule_fault g (pda_cons (pd_call c__law_with g (pda_cons (pd_ix (pd_var 3) pd_int) (pda_cons (pd_var 6) (pda_cons (pd_var 7) pda_nil)))) pda_nil)) pd_non) (psd_one (psd_if (pdt_ne g (pd_var 8) (pd_tup (pda_cons pd_str (pda_cons (pd_var 6) pda_nil)))) (psd_one (psd_ret pd_bl)) psd_nil)) (psd_one (psd_if (pdt_w (pdw_or (pdt_neG g (pd_prop p_Book_rule g (pd_var 8)) (pd_call c__law_with g (pda_cons (pd_ix (pd_var 3) pd_int) (pda_cons (pd_var 6) (pda_cons (pd_var 7) pda_nil))))) (pdw_or (pdt_ne g (pd_prop p_Book_prices g (pd_var 8)) (pd_ix (pd_var 3) pd_int)) (pdw_or1 (pdt_ne g (pd_prop p_Book_words g (pd_var 8)) (pd_ix (pd_var 3) pd_int)))))) (psd_one (psd_ret pd_bl)) (psd_one (psd_if (pdt_ne g (pd_own q_Book g (pd_var 8) (pd_var 4)) (pd_eq g (pd_var 7) (pd_ix (pd_ix (pd_var 3) pd_int) (pd_var 6)))) (psd_one (psd_ret pd_bl)) psd_nil))))))))))))))))))))
    (psd_one (psd_ret pd_bl))))
theorem law_fn {f : Addr} {fd : FuncData} (T : Txt P K mg w a) (F : Fun K "law" "law" s_law f fd) : FnOk P w K mg base (L2.CX P w) 9 f fd P_law (spD K 1 (ct_law a)) := by
  have c_is_integer : Cal P w K mg base 1 "is_integer" 3 (ct_is_integer a) := T.df_is_integer.cal sc_is_integer (b_is_integer T ) covs_t
  have c_is_word : Cal P w K mg base 1 "is_word" 2 (ct_is_word a) := T.df_is_word.cal sc_is_word (b_is_word T ) covs_t
  have c_check_rule : Cal P w K mg base 4 "check_rule" 1 (ct_check_rule a) := T.df_check_rule.cal sc_check_rule (b_check_rule T c_is_word) covs_t
  have m_Book : Cml P w K mg base 5 "Book" a.kBook 3 (cm_Book a) := T.dc_Book.cml sc_Book_init (b_Book_init T c_check_rule c_is_integer c_is_word) covs_t
  have p_Book_prices : Cpr P w K mg base 1 a.kBook "prices" (cp_Book_prices a) := T.dp_Book_prices.cpr sc_Book_p_prices (b_Book_p_prices T ) covs_t
  have p_Book_rule : Cpr P w K mg base 1 a.kBook "rule" (cp_Book_rule a) := T.dp_Book_rule.cpr sc_Book_p_rule (b_Book_p_rule T ) covs_t
  have p_Book_words : Cpr P w K mg base 1 a.kBook "words" (cp_Book_words a) := T.dp_Book_words.cpr sc_Book_p_words (b_Book_p_words T ) covs_t
  have t_Book_changed : Cmt P w K mg base 7 a.kBook "changed" 2 (cu_Book_changed a) := T.dt_Book_changed.cmt sc_Book_t_changed (b_Book_t_changed T c_is_word m_Book) covs_t
  have q_Book : Ceq P w K mg base 1 a.kBook (cq_Book a) := T.de_Book.ceq sc_Book_eq (b_Book_eq T ) covs_t
  have c__law_mix : Cal P w K mg base 1 "_law_mix" 2 (ct__law_mix a) := T.df__law_mix.cal sc_law_mix (b_law_mix T ) covs_of
  have c__law_next : Cal P w K mg base 1 "_law_next" 2 (ct__law_next a) := T.df__law_next.cal sc_law_next (b_law_next T ) covs_t
  have c__law_alike_z : Cal P w K mg base 0 "_law_alike" 2 (fun _ _ => .bad) := T.df__law_alike.cal0
  have c__law_alike_0 : Cal P w K mg base 1 "_law_alike" 2 (ct__law_alike_0 a) := T.df__law_alike.cal sc_law_alike (b_law_alike T (by decide) c__law_alike_z ) covs_t
  have c__law_alike_1 : Cal P w K mg base 2 "_law_alike" 2 (ct__law_alike_1 a) := T.df__law_alike.cal sc_law_alike (b_law_alike T (by decide) c__law_alike_0 ) covs_t
  have c__law_alike_2 : Cal P w K mg base 3 "_law_alike" 2 (ct__law_alike_2 a) := T.df__law_alike.cal sc_law_alike (b_law_alike T (by decide) c__law_alike_1 ) covs_t
  have c__law_alike : Cal P w K mg base 4 "_law_alike" 2 (ct__law_alike_3 a) := T.df__law_alike.cal sc_law_alike (b_law_alike T (by decide) c__law_alike_2 ) covs_t
  have c__law_pick : Cal P w K mg base 2 "_law_pick" 2 (ct__law_pick a) := T.df__law_pick.cal sc_law_pick (b_law_pick T c__law_next) covs_t
  have c__law_parts : Cal P w K mg base 1 "_law_parts" 0 (ct__law_parts a) := T.df__law_parts.cal sc_law_parts (b_law_parts T ) covs_t
  have c__law_rule : Cal P w K mg base 3 "_law_rule" 1 (ct__law_rule a) := T.df__law_rule.cal sc_law_rule (b_law_rule T c__law_next c__law_parts c__law_pick) covs_of
  have c__law_words : Cal P w K mg base 3 "_law_words" 2 (ct__law_words a) := T.df__law_words.cal sc_law_words (b_law_words T c__law_next c__law_pick) covs_t
  have c__law_with : Cal P w K mg base 1 "_law_with" 3 (ct__law_with a) := T.df__law_with.cal sc_law_with (b_law_with T ) covs_t
  have c__law_draw : Cal P w K mg base 4 "_law_draw" 1 (ct__law_draw a) := T.df__law_draw.cal sc_law_draw (b_law_draw T c__law_rule c__law_words) covs_of
  have c__law_built : Cal P w K mg base 7 "_law_built" 1 (ct__law_built a) := T.df__law_built.cal sc_law_built (b_law_built T m_Book) covs_t
  have c__law_rule_fault : Cal P w K mg base 2 "_law_rule_fault" 1 (ct__law_rule_fault a) := T.df__law_rule_fault.cal sc_law_rule_fault (b_law_rule_fault T c__law_parts) covs_t
  have c__law_fault : Cal P w K mg base 3 "_law_fault" 1 (ct__law_fault a) := T.df__law_fault.cal sc_law_fault (b_law_fault T c__law_rule_fault) covs_t
  have c__law_tried : Cal P w K mg base 8 "_law_tried" 4 (ct__law_tried a) := T.df__law_tried.cal sc_law_tried (b_law_tried T c__law_built t_Book_changed) covs_t
  have c__law_spoiled : Cal P w K mg base 3 "_law_spoiled" 2 (ct__law_spoiled a) := T.df__law_spoiled.cal sc_law_spoiled (b_law_spoiled T c__law_next c__law_parts c__law_pick) covs_t
  exact fn_cal F sc_law (by decide) (b_law T c__law_alike c__law_built c__law_draw c__law_fault c__law_mix c__law_next c__law_parts c__law_pick c__law_rule_fault c__law_spoiled c__law_tried c__law_with m_Book p_Book_prices p_Book_rule p_Book_words q_Book f) (show Covs N_law P_law (ct_law a) (r_law a) from covs_of)
end
end
theorem all_mk {l : PySem.W.OpenLaw} {w : World} {K : PySem.W.Frag} {h : Heap} {mg : Str → Option Value} (X : K.In h) (G : h.Ns mainGlobals mg)
    {kInvalidWords : Addr} (gkInvalidWords : PySem.W.nsIn K mainGlobals "InvalidWords" = some (some (.ref kInvalidWords)))
    {kInvalidRule : Addr} (gkInvalidRule : PySem.W.nsIn K mainGlobals "InvalidRule" = some (some (.ref kInvalidRule)))
    {kInvalidPrices : Addr} (gkInvalidPrices : PySem.W.nsIn K mainGlobals "InvalidPrices" = some (some (.ref kInvalidPrices)))
    {kFindError : Addr} (gkFindError : PySem.W.nsIn K mainGlobals "FindError" = some (some (.ref kFindError)))
    {fa : Addr} (hfa : mg "law" = some (.ref fa))
    {kBook : Addr} (gkBook : PySem.W.nsIn K mainGlobals "Book" = some (some (.ref kBook)))
    {f0 : Addr} {od0 an0 : Option Addr} {sl0 : Array (Option Value)} {oc0 kV0 dc0 pm0 cd0 ct0 : Value}
    (a0 : PySem.W.nsIn K mainGlobals "is_integer" = some (some (.ref f0)))
    (l0 : K.lookup f0 = some ⟨oc0, od0, .func (PySem.W.fnOf "is_integer" "is_integer" (defArgs LX.s_is_integer) (defBody LX.s_is_integer) (defScope LX.s_is_integer) .none kV0 dc0 pm0 an0 cd0 ct0), sl0⟩)
    (c0 : PySem.W.codeIn K cd0 "is_integer" = true)
    (k0 : PySem.W.keepIn K (.ref f0) = true)
    {f1 : Addr} {od1 an1 : Option Addr} {sl1 : Array (Option Value)} {oc1 kV1 dc1 pm1 cd1 ct1 : Value}
    (a1 : PySem.W.nsIn K mainGlobals "is_word" = some (some (.ref f1)))
    (l1 : K.lookup f1 = some ⟨oc1, od1, .func (PySem.W.fnOf "is_word" "is_word" (defArgs LX.s_is_word) (defBody LX.s_is_word) (defScope LX.s_is_word) .none kV1 dc1 pm1 an1 cd1 ct1), sl1⟩)
    (c1 : PySem.W.codeIn K cd1 "is_word" = true)
    (k1 : PySem.W.keepIn K (.ref f1) = true)
    {f2 : Addr} {od2 an2 : Option Addr} {sl2 : Array (Option Value)} {oc2 kV2 dc2 pm2 cd2 ct2 : Value}
    (a2 : PySem.W.nsIn K mainGlobals "check_rule" = some (some (.ref f2)))
    (l2 : K.lookup f2 = some ⟨oc2, od2, .func (PySem.W.fnOf "check_rule" "check_rule" (defArgs LX.s_check_rule) (defBody LX.s_check_rule) (defScope LX.s_check_rule) .none kV2 dc2 pm2 an2 cd2 ct2), sl2⟩)
    (c2 : PySem.W.codeIn K cd2 "check_rule" = true)
    (k2 : PySem.W.keepIn K (.ref f2) = true)
    {f3 : Addr} {od3 an3 : Option Addr} {sl3 : Array (Option Value)} {oc3 kV3 dc3 pm3 cd3 ct3 : Value}
    (a3 : PySem.W.findIn K (.ref kBook) "__init__" = some (some (.ref f3)))
    (i3 : PySem.W.isFn K (.ref f3) = true)
    (l3 : K.lookup f3 = some ⟨oc3, od3, .func (PySem.W.fnOf "__init__" "Book.__init__" (defArgs LX.s_Book_init) (defBody LX.s_Book_init) (defScope LX.s_Book_init) .none kV3 dc3 pm3 an3 cd3 ct3), sl3⟩)
    (c3 : PySem.W.codeIn K cd3 "Book.__init__" = true)
    (k3 : PySem.W.keepIn K (.ref f3) = true)
    {f4 : Addr} {od4 an4 : Option Addr} {sl4 : Array (Option Value)} {oc4 kV4 dc4 pm4 cd4 ct4 : Value}
    {pp4 : Addr} {pr4 : List Value}
    (a4 : PySem.W.findIn K (.ref kBook) "prices" = some (some (.ref pp4)))
    (pG4 : PySem.W.specialIn K (.ref pp4) "__get__" = some (some (.builtin "property.__get__")))
    (pT4 : PySem.W.takesIn K (.ref pp4) = some true)
    (pR4 : PySem.W.recIn K pp4 "property" = some (.ref f4 :: pr4))
    (l4 : K.lookup f4 = some ⟨oc4, od4, .func (PySem.W.fnOf "prices" "Book.prices" (defArgs LX.s_Book_p_prices) (defBody LX.s_Book_p_prices) (defScope LX.s_Book_p_prices) .none kV4 dc4 pm4 an4 cd4 ct4), sl4⟩)
    (c4 : PySem.W.codeIn K cd4 "Book.prices" = true)
    (k4 : PySem.W.keepIn K (.ref f4) = true)
    {f5 : Addr} {od5 an5 : Option Addr} {sl5 : Array (Option Value)} {oc5 kV5 dc5 pm5 cd5 ct5 : Value}
    {pp5 : Addr} {pr5 : List Value}
    (a5 : PySem.W.findIn K (.ref kBook) "rule" = some (some (.ref pp5)))
    (pG5 : PySem.W.specialIn K (.ref pp5) "__get__" = some (some (.builtin "property.__get__")))
    (pT5 : PySem.W.takesIn K (.ref pp5) = some true)
    (pR5 : PySem.W.recIn K pp5 "property" = some (.ref f5 :: pr5))
    (l5 : K.lookup f5 = some ⟨oc5, od5, .func (PySem.W.fnOf "rule" "Book.rule" (defArgs LX.s_Book_p_rule) (defBody LX.s_Book_p_rule) (defScope LX.s_Book_p_rule) .none kV5 dc5 pm5 an5 cd5 ct5), sl5⟩)
    (c5 : PySem.W.codeIn K cd5 "Book.rule" = true)
    (k5 : PySem.W.keepIn K (.ref f5) = true)
    {f6 : Addr} {od6 an6 : Option Addr} {sl6 : Array (Option Value)} {oc6 kV6 dc6 pm6 cd6 ct6 : Value}
    {pp6 : Addr} {pr6 : List Value}
    (a6 : PySem.W.findIn K (.ref kBook) "words" = some (some (.ref pp6)))
    (pG6 : PySem.W.specialIn K (.ref pp6) "__get__" = some (some (.builtin "property.__get__")))
    (pT6 : PySem.W.takesIn K (.ref pp6) = some true)
    (pR6 : PySem.W.recIn K pp6 "property" = some (.ref f6 :: pr6))
    (l6 : K.lookup f6 = some ⟨oc6, od6, .func (PySem.W.fnOf "words" "Book.words" (defArgs LX.s_Book_p_words) (defBody LX.s_Book_p_words) (defScope LX.s_Book_p_words) .none kV6 dc6 pm6 an6 cd6 ct6), sl6⟩)
    (c6 : PySem.W.codeIn K cd6 "Book.words" = true)
    (k6 : PySem.W.keepIn K (.ref f6) = true)
    {f7 : Addr} {od7 an7 : Option Addr} {sl7 : Array (Option Value)} {oc7 kV7 dc7 pm7 cd7 ct7 : Value}
    (a7 : PySem.W.findIn K (.ref kBook) "changed" = some (some (.ref f7)))
    (i7 : PySem.W.isFn K (.ref f7) = true)
    (l7 : K.lookup f7 = some ⟨oc7, od7, .func (PySem.W.fnOf "changed" "Book.changed" (defArgs LX.s_Book_t_changed) (defBody LX.s_Book_t_changed) (defScope LX.s_Book_t_changed) .none kV7 dc7 pm7 an7 cd7 ct7), sl7⟩)
    (c7 : PySem.W.codeIn K cd7 "Book.changed" = true)
    (k7 : PySem.W.keepIn K (.ref f7) = true)
    {f8 : Addr} {od8 an8 : Option Addr} {sl8 : Array (Option Value)} {oc8 kV8 dc8 pm8 cd8 ct8 : Value}
    (a8 : PySem.W.findIn K (.ref kBook) "__eq__" = some (some (.ref f8)))
    (i8 : PySem.W.isFn K (.ref f8) = true)
    (l8 : K.lookup f8 = some ⟨oc8, od8, .func (PySem.W.fnOf "__eq__" "Book.__eq__" (defArgs LX.s_Book_eq) (defBody LX.s_Book_eq) (defScope LX.s_Book_eq) .none kV8 dc8 pm8 an8 cd8 ct8), sl8⟩)
    (c8 : PySem.W.codeIn K cd8 "Book.__eq__" = true)
    (k8 : PySem.W.keepIn K (.ref f8) = true)
    {f9 : Addr} {od9 an9 : Option Addr} {sl9 : Array (Option Value)} {oc9 kV9 dc9 pm9 cd9 ct9 : Value}
    (a9 : PySem.W.nsIn K mainGlobals "_law_mix" = some (some (.ref f9)))
    (l9 : K.lookup f9 = some ⟨oc9, od9, .func (PySem.W.fnOf "_law_mix" "_law_mix" (defArgs LX.s_law_mix) (defBody LX.s_law_mix) (defScope LX.s_law_mix) .none kV9 dc9 pm9 an9 cd9 ct9), sl9⟩)
    (c9 : PySem.W.codeIn K cd9 "_law_mix" = true)
    (k9 : PySem.W.keepIn K (.ref f9) = true)
    {f10 : Addr} {od10 an10 : Option Addr} {sl10 : Array (Option Value)} {oc10 kV10 dc10 pm10 cd10 ct10 : Value}
    (a10 : PySem.W.nsIn K mainGlobals "_law_next" = some (some (.ref f10)))
    (l10 : K.lookup f10 = some ⟨oc10, od10, .func (PySem.W.fnOf "_law_next" "_law_next" (defArgs LX.s_law_next) (defBody LX.s_law_next) (defScope LX.s_law_next) .none kV10 dc10 pm10 an10 cd10 ct10), sl10⟩)
    (c10 : PySem.W.codeIn K cd10 "_law_next" = true)
    (k10 : PySem.W.keepIn K (.ref f10) = true)
    {f11 : Addr} {od11 an11 : Option Addr} {sl11 : Array (Option Value)} {oc11 kV11 dc11 pm11 cd11 ct11 : Value}
    (a11 : PySem.W.nsIn K mainGlobals "_law_alike" = some (some (.ref f11)))
    (l11 : K.lookup f11 = some ⟨oc11, od11, .func (PySem.W.fnOf "_law_alike" "_law_alike" (defArgs LX.s_law_alike) (defBody LX.s_law_alike) (defScope LX.s_law_alike) .none kV11 dc11 pm11 an11 cd11 ct11), sl11⟩)
    (c11 : PySem.W.codeIn K cd11 "_law_alike" = true)
    (k11 : PySem.W.keepIn K (.ref f11) = true)
    {f12 : Addr} {od12 an12 : Option Addr} {sl12 : Array (Option Value)} {oc12 kV12 dc12 pm12 cd12 ct12 : Value}
    (a12 : PySem.W.nsIn K mainGlobals "_law_pick" = some (some (.ref f12)))
    (l12 : K.lookup f12 = some ⟨oc12, od12, .func (PySem.W.fnOf "_law_pick" "_law_pick" (defArgs LX.s_law_pick) (defBody LX.s_law_pick) (defScope LX.s_law_pick) .none kV12 dc12 pm12 an12 cd12 ct12), sl12⟩)
    (c12 : PySem.W.codeIn K cd12 "_law_pick" = true)
    (k12 : PySem.W.keepIn K (.ref f12) = true)
    {f13 : Addr} {od13 an13 : Option Addr} {sl13 : Array (Option Value)} {oc13 kV13 dc13 pm13 cd13 ct13 : Value}
    (a13 : PySem.W.nsIn K mainGlobals "_law_parts" = some (some (.ref f13)))
    (l13 : K.lookup f13 = some ⟨oc13, od13, .func (PySem.W.fnOf "_law_parts" "_law_parts" (defArgs LX.s_law_parts) (defBody LX.s_law_parts) (defScope LX.s_law_parts) .none kV13 dc13 pm13 an13 cd13 ct13), sl13⟩)
    (c13 : PySem.W.codeIn K cd13 "_law_parts" = true)
    (k13 : PySem.W.keepIn K (.ref f13) = true)
    {f14 : Addr} {od14 an14 : Option Addr} {sl14 : Array (Option Value)} {oc14 kV14 dc14 pm14 cd14 ct14 : Value}
    (a14 : PySem.W.nsIn K mainGlobals "_law_rule" = some (some (.ref f14)))
    (l14 : K.lookup f14 = some ⟨oc14, od14, .func (PySem.W.fnOf "_law_rule" "_law_rule" (defArgs LX.s_law_rule) (defBody LX.s_law_rule) (defScope LX.s_law_rule) .none kV14 dc14 pm14 an14 cd14 ct14), sl14⟩)
    (c14 : PySem.W.codeIn K cd14 "_law_rule" = true)
    (k14 : PySem.W.keepIn K (.ref f14) = true)
    {f15 : Addr} {od15 an15 : Option Addr} {sl15 : Array (Option Value)} {oc15 kV15 dc15 pm15 cd15 ct15 : Value}
    (a15 : PySem.W.nsIn K mainGlobals "_law_words" = some (some (.ref f15)))
    (l15 : K.lookup f15 = some ⟨oc15, od15, .func (PySem.W.fnOf "_law_words" "_law_words" (defArgs LX.s_law_words) (defBody LX.s_law_words) (defScope LX.s_law_words) .none kV15 dc15 pm15 an15 cd15 ct15), sl15⟩)
    (c15 : PySem.W.codeIn K cd15 "_law_words" = true)
    (k15 : PySem.W.keepIn K (.ref f15) = true)
    {f16 : Addr} {od16 an16 : Option Addr} {sl16 : Array (Option Value)} {oc16 kV16 dc16 pm16 cd16 ct16 : Value}
    (a16 : PySem.W.nsIn K mainGlobals "_law_with" = some (some (.ref f16)))
    (l16 : K.lookup f16 = some ⟨oc16, od16, .func (PySem.W.fnOf "_law_with" "_law_with" (defArgs LX.s_law_with) (defBody LX.s_law_with) (defScope LX.s_law_with) .none kV16 dc16 pm16 an16 cd16 ct16), sl16⟩)
    (c16 : PySem.W.codeIn K cd16 "_law_with" = true)
    (k16 : PySem.W.keepIn K (.ref f16) = true)
    {f17 : Addr} {od17 an17 : Option Addr} {sl17 : Array (Option Value)} {oc17 kV17 dc17 pm17 cd17 ct17 : Value}
    (a17 : PySem.W.nsIn K mainGlobals "_law_draw" = some (some (.ref f17)))
    (l17 : K.lookup f17 = some ⟨oc17, od17, .func (PySem.W.fnOf "_law_draw" "_law_draw" (defArgs LX.s_law_draw) (defBody LX.s_law_draw) (defScope LX.s_law_draw) .none kV17 dc17 pm17 an17 cd17 ct17), sl17⟩)
    (c17 : PySem.W.codeIn K cd17 "_law_draw" = true)
    (k17 : PySem.W.keepIn K (.ref f17) = true)
    {f18 : Addr} {od18 an18 : Option Addr} {sl18 : Array (Option Value)} {oc18 kV18 dc18 pm18 cd18 ct18 : Value}
    (a18 : PySem.W.nsIn K mainGlobals "_law_built" = some (some (.ref f18)))
    (l18 : K.lookup f18 = some ⟨oc18, od18, .func (PySem.W.fnOf "_law_built" "_law_built" (defArgs LX.s_law_built) (defBody LX.s_law_built) (defScope LX.s_law_built) .none kV18 dc18 pm18 an18 cd18 ct18), sl18⟩)
    (c18 : PySem.W.codeIn K cd18 "_law_built" = true)
    (k18 : PySem.W.keepIn K (.ref f18) = true)
    {f19 : Addr} {od19 an19 : Option Addr} {sl19 : Array (Option Value)} {oc19 kV19 dc19 pm19 cd19 ct19 : Value}
    (a19 : PySem.W.nsIn K mainGlobals "_law_rule_fault" = some (some (.ref f19)))
    (l19 : K.lookup f19 = some ⟨oc19, od19, .func (PySem.W.fnOf "_law_rule_fault" "_law_rule_fault" (defArgs LX.s_law_rule_fault) (defBody LX.s_law_rule_fault) (defScope LX.s_law_rule_fault) .none kV19 dc19 pm19 an19 cd19 ct19), sl19⟩)
    (c19 : PySem.W.codeIn K cd19 "_law_rule_fault" = true)
    (k19 : PySem.W.keepIn K (.ref f19) = true)
    {f20 : Addr} {od20 an20 : Option Addr} {sl20 : Array (Option Value)} {oc20 kV20 dc20 pm20 cd20 ct20 : Value}
    (a20 : PySem.W.nsIn K mainGlobals "_law_fault" = some (some (.ref f20)))
    (l20 : K.lookup f20 = some ⟨oc20, od20, .func (PySem.W.fnOf "_law_fault" "_law_fault" (defArgs LX.s_law_fault) (defBody LX.s_law_fault) (defScope LX.s_law_fault) .none kV20 dc20 pm20 an20 cd20 ct20), sl20⟩)
    (c20 : PySem.W.codeIn K cd20 "_law_fault" = true)
    (k20 : PySem.W.keepIn K (.ref f20) = true)
    {f21 : Addr} {od21 an21 : Option Addr} {sl21 : Array (Option Value)} {oc21 kV21 dc21 pm21 cd21 ct21 : Value}
    (a21 : PySem.W.nsIn K mainGlobals "_law_tried" = some (some (.ref f21)))
    (l21 : K.lookup f21 = some ⟨oc21, od21, .func (PySem.W.fnOf "_law_tried" "_law_tried" (defArgs LX.s_law_tried) (defBody LX.s_law_tried) (defScope LX.s_law_tried) .none kV21 dc21 pm21 an21 cd21 ct21), sl21⟩)
    (c21 : PySem.W.codeIn K cd21 "_law_tried" = true)
    (k21 : PySem.W.keepIn K (.ref f21) = true)
    {f22 : Addr} {od22 an22 : Option Addr} {sl22 : Array (Option Value)} {oc22 kV22 dc22 pm22 cd22 ct22 : Value}
    (a22 : PySem.W.nsIn K mainGlobals "_law_spoiled" = some (some (.ref f22)))
    (l22 : K.lookup f22 = some ⟨oc22, od22, .func (PySem.W.fnOf "_law_spoiled" "_law_spoiled" (defArgs LX.s_law_spoiled) (defBody LX.s_law_spoiled) (defScope LX.s_law_spoiled) .none kV22 dc22 pm22 an22 cd22 ct22), sl22⟩)
    (c22 : PySem.W.codeIn K cd22 "_law_spoiled" = true)
    (k22 : PySem.W.keepIn K (.ref f22) = true)
    {f23 : Addr} {od23 an23 : Option Addr} {sl23 : Array (Option Value)} {oc23 kV23 dc23 pm23 cd23 ct23 : Value}
    (a23 : PySem.W.nsIn K mainGlobals "law" = some (some (.ref f23)))
    (l23 : K.lookup f23 = some ⟨oc23, od23, .func (PySem.W.fnOf "law" "law" (defArgs LX.s_law) (defBody LX.s_law) (defScope LX.s_law) .none kV23 dc23 pm23 an23 cd23 ct23), sl23⟩)
    (c23 : PySem.W.codeIn K cd23 "law" = true)
    (k23 : PySem.W.keepIn K (.ref f23) = true)
    (hTop : (l.prog.main.scope.names.lookup ("super" : Str)).isSome = false)
    (tpX : PySem.W.nsIn K PySem.cStatics "thirdparty.any" = some none)
    (msX : PySem.W.nsIn K mainGlobals "super" = some none)
    {xfInvalidPrices xNInvalidPrices xccInvalidPrices xcdInvalidPrices : Addr} {xnmInvalidPrices xqInvalidPrices : Str} {xbsInvalidPrices : List Value} {xsnInvalidPrices : List Str} {xsubInvalidPrices : List Value} {xabInvalidPrices : Bool} {xcolInvalidPrices : Option Bool} {xddInvalidPrices : Option Addr} {xk0InvalidPrices xk1InvalidPrices xk2InvalidPrices xk3InvalidPrices xk5InvalidPrices : Option Value}
    {xocInvalidPrices xkVInvalidPrices xdocInvalidPrices xpmInvalidPrices xctInvalidPrices xo2InvalidPrices xo3InvalidPrices : Value} {xodInvalidPrices xanInvalidPrices xd2InvalidPrices xd3InvalidPrices : Option Addr} {xslInvalidPrices xs2InvalidPrices xs3InvalidPrices : Array (Option Value)} {xvsInvalidPrices : Array Value} {xfileInvalidPrices : Str} {xtfInvalidPrices : Tok}
    (lcInvalidPrices : K.lookup kInvalidPrices = some (excClassObj xnmInvalidPrices xqInvalidPrices kInvalidPrices xNInvalidPrices xbsInvalidPrices [.ref kFindError, .type "ValueError", .type "Exception", .type "BaseException", .type "object"] true xsnInvalidPrices xsubInvalidPrices xabInvalidPrices xcolInvalidPrices xddInvalidPrices xk0InvalidPrices xk1InvalidPrices xk2InvalidPrices xk3InvalidPrices xk5InvalidPrices "ValueError.__new__"))
    (saInvalidPrices : PySem.W.findIn K (.ref kInvalidPrices) "__setattr__" = some (some (.builtin "object.__setattr__")))
    (ecInvalidPrices : PySem.W.subIn K (.ref kInvalidPrices) (.type "BaseException") = some true)
    (tyInvalidPrices : PySem.W.typeIn K (.ref kInvalidPrices) = some (.type "type"))
    (kcInvalidPrices : PySem.W.keepIn K (.ref kInvalidPrices) = true)
    (iiInvalidPrices : PySem.W.findIn K (.ref kInvalidPrices) "__init__" = some (some (.ref xfInvalidPrices)))
    (itInvalidPrices : PySem.W.typeIn K (.ref xfInvalidPrices) = some (.type "function"))
    (lfInvalidPrices : K.lookup xfInvalidPrices = some ⟨xocInvalidPrices, xodInvalidPrices, .func (PySem.W.fnX "__init__" "InvalidPrices.__init__" (defArgs LX.s_xInvalidPrices) (defBody LX.s_xInvalidPrices) (defScope LX.s_xInvalidPrices) [(("__class__" : Str), xccInvalidPrices)] .none xkVInvalidPrices xdocInvalidPrices xpmInvalidPrices xanInvalidPrices (.ref xcdInvalidPrices) xctInvalidPrices), xslInvalidPrices⟩)
    (llInvalidPrices : K.lookup xccInvalidPrices = some ⟨xo2InvalidPrices, xd2InvalidPrices, .cell (some (.ref kInvalidPrices)), xs2InvalidPrices⟩)
    (hcInvalidPrices : PySem.W.codeIn K (.ref xcdInvalidPrices) "InvalidPrices.__init__" = true)
    (lkInvalidPrices : K.lookup xcdInvalidPrices = some ⟨xo3InvalidPrices, xd3InvalidPrices, .fields xvsInvalidPrices, xs3InvalidPrices⟩)
    (hvInvalidPrices : xvsInvalidPrices[2]? = some (.str xfileInvalidPrices xtfInvalidPrices))
    (hfInvalidPrices : ((l.prog.main.file : Str) == xfileInvalidPrices) = true)
    (suInvalidPrices : PySem.W.ks_superIn K kInvalidPrices kInvalidPrices "__init__" = some (some (.builtin "ValueError.__init__")))
    (smInvalidPrices : PySem.W.mroIn K kInvalidPrices (.ref kInvalidPrices) = some true)
    (sVInvalidPrices : PySem.W.subIn K (.ref kInvalidPrices) (.type "ValueError") = some true)
    {xfInvalidRule xNInvalidRule xccInvalidRule xcdInvalidRule : Addr} {xnmInvalidRule xqInvalidRule : Str} {xbsInvalidRule : List Value} {xsnInvalidRule : List Str} {xsubInvalidRule : List Value} {xabInvalidRule : Bool} {xcolInvalidRule : Option Bool} {xddInvalidRule : Option Addr} {xk0InvalidRule xk1InvalidRule xk2InvalidRule xk3InvalidRule xk5InvalidRule : Option Value}
    {xocInvalidRule xkVInvalidRule xdocInvalidRule xpmInvalidRule xctInvalidRule xo2InvalidRule xo3InvalidRule : Value} {xodInvalidRule xanInvalidRule xd2InvalidRule xd3InvalidRule : Option Addr} {xslInvalidRule xs2InvalidRule xs3InvalidRule : Array (Option Value)} {xvsInvalidRule : Array Value} {xfileInvalidRule : Str} {xtfInvalidRule : Tok}
    (lcInvalidRule : K.lookup kInvalidRule = some (excClassObj xnmInvalidRule xqInvalidRule kInvalidRule xNInvalidRule xbsInvalidRule [.ref kFindError, .type "ValueError", .type "Exception", .type "BaseException", .type "object"] true xsnInvalidRule xsubInvalidRule xabInvalidRule xcolInvalidRule xddInvalidRule xk0InvalidRule xk1InvalidRule xk2InvalidRule xk3InvalidRule xk5InvalidRule "ValueError.__new__"))
    (saInvalidRule : PySem.W.findIn K (.ref kInvalidRule) "__setattr__" = some (some (.builtin "object.__setattr__")))
    (ecInvalidRule : PySem.W.subIn K (.ref kInvalidRule) (.type "BaseException") = some true)
    (tyInvalidRule : PySem.W.typeIn K (.ref kInvalidRule) = some (.type "type"))
    (kcInvalidRule : PySem.W.keepIn K (.ref kInvalidRule) = true)
    (iiInvalidRule : PySem.W.findIn K (.ref kInvalidRule) "__init__" = some (some (.ref xfInvalidRule)))
    (itInvalidRule : PySem.W.typeIn K (.ref xfInvalidRule) = some (.type "function"))
    (lfInvalidRule : K.lookup xfInvalidRule = some ⟨xocInvalidRule, xodInvalidRule, .func (PySem.W.fnX "__init__" "InvalidRule.__init__" (defArgs LX.s_xInvalidRule) (defBody LX.s_xInvalidRule) (defScope LX.s_xInvalidRule) [(("__class__" : Str), xccInvalidRule)] .none xkVInvalidRule xdocInvalidRule xpmInvalidRule xanInvalidRule (.ref xcdInvalidRule) xctInvalidRule), xslInvalidRule⟩)
    (llInvalidRule : K.lookup xccInvalidRule = some ⟨xo2InvalidRule, xd2InvalidRule, .cell (some (.ref kInvalidRule)), xs2InvalidRule⟩)
    (hcInvalidRule : PySem.W.codeIn K (.ref xcdInvalidRule) "InvalidRule.__init__" = true)
    (lkInvalidRule : K.lookup xcdInvalidRule = some ⟨xo3InvalidRule, xd3InvalidRule, .fields xvsInvalidRule, xs3InvalidRule⟩)
    (hvInvalidRule : xvsInvalidRule[2]? = some (.str xfileInvalidRule xtfInvalidRule))
    (hfInvalidRule : ((l.prog.main.file : Str) == xfileInvalidRule) = true)
    (suInvalidRule : PySem.W.ks_superIn K kInvalidRule kInvalidRule "__init__" = some (some (.builtin "ValueError.__init__")))
    (smInvalidRule : PySem.W.mroIn K kInvalidRule (.ref kInvalidRule) = some true)
    (sVInvalidRule : PySem.W.subIn K (.ref kInvalidRule) (.type "ValueError") = some true)
    (nfInvalidRule_part : PySem.W.findIn K (.ref kInvalidRule) "part" = some none)
    {xfInvalidWords xNInvalidWords xccInvalidWords xcdInvalidWords : Addr} {xnmInvalidWords xqInvalidWords : Str} {xbsInvalidWords : List Value} {xsnInvalidWords : List Str} {xsubInvalidWords : List Value} {xabInvalidWords : Bool} {xcolInvalidWords : Option Bool} {xddInvalidWords : Option Addr} {xk0InvalidWords xk1InvalidWords xk2InvalidWords xk3InvalidWords xk5InvalidWords : Option Value}
    {xocInvalidWords xkVInvalidWords xdocInvalidWords xpmInvalidWords xctInvalidWords xo2InvalidWords xo3InvalidWords : Value} {xodInvalidWords xanInvalidWords xd2InvalidWords xd3InvalidWords : Option Addr} {xslInvalidWords xs2InvalidWords xs3InvalidWords : Array (Option Value)} {xvsInvalidWords : Array Value} {xfileInvalidWords : Str} {xtfInvalidWords : Tok}
    (lcInvalidWords : K.lookup kInvalidWords = some (excClassObj xnmInvalidWords xqInvalidWords kInvalidWords xNInvalidWords xbsInvalidWords [.ref kFindError, .type "ValueError", .type "Exception", .type "BaseException", .type "object"] true xsnInvalidWords xsubInvalidWords xabInvalidWords xcolInvalidWords xddInvalidWords xk0InvalidWords xk1InvalidWords xk2InvalidWords xk3InvalidWords xk5InvalidWords "ValueError.__new__"))
    (saInvalidWords : PySem.W.findIn K (.ref kInvalidWords) "__setattr__" = some (some (.builtin "object.__setattr__")))
    (ecInvalidWords : PySem.W.subIn K (.ref kInvalidWords) (.type "BaseException") = some true)
    (tyInvalidWords : PySem.W.typeIn K (.ref kInvalidWords) = some (.type "type"))
    (kcInvalidWords : PySem.W.keepIn K (.ref kInvalidWords) = true)
    (iiInvalidWords : PySem.W.findIn K (.ref kInvalidWords) "__init__" = some (some (.ref xfInvalidWords)))
    (itInvalidWords : PySem.W.typeIn K (.ref xfInvalidWords) = some (.type "function"))
    (lfInvalidWords : K.lookup xfInvalidWords = some ⟨xocInvalidWords, xodInvalidWords, .func (PySem.W.fnX "__init__" "InvalidWords.__init__" (defArgs LX.s_xInvalidWords) (defBody LX.s_xInvalidWords) (defScope LX.s_xInvalidWords) [(("__class__" : Str), xccInvalidWords)] .none xkVInvalidWords xdocInvalidWords xpmInvalidWords xanInvalidWords (.ref xcdInvalidWords) xctInvalidWords), xslInvalidWords⟩)
    (llInvalidWords : K.lookup xccInvalidWords = some ⟨xo2InvalidWords, xd2InvalidWords, .cell (some (.ref kInvalidWords)), xs2InvalidWords⟩)
    (hcInvalidWords : PySem.W.codeIn K (.ref xcdInvalidWords) "InvalidWords.__init__" = true)
    (lkInvalidWords : K.lookup xcdInvalidWords = some ⟨xo3InvalidWords, xd3InvalidWords, .fields xvsInvalidWords, xs3InvalidWords⟩)
    (hvInvalidWords : xvsInvalidWords[2]? = some (.str xfileInvalidWords xtfInvalidWords))
    (hfInvalidWords : ((l.prog.main.file : Str) == xfileInvalidWords) = true)
    (suInvalidWords : PySem.W.ks_superIn K kInvalidWords kInvalidWords "__init__" = some (some (.builtin "ValueError.__init__")))
    (smInvalidWords : PySem.W.mroIn K kInvalidWords (.ref kInvalidWords) = some true)
    (sVInvalidWords : PySem.W.subIn K (.ref kInvalidWords) (.type "ValueError") = some true)
    (beInvalidPrices : PySem.W.subIn K (.ref kInvalidPrices) (.type "BaseException") = some true)
    (bdInvalidPrices : PySem.W.hasDictIn K kInvalidPrices = true)
    (btInvalidPrices : PySem.W.typeIn K (.ref kInvalidPrices) = some (.type "type"))
    (esInvalidPrices_InvalidPrices : PySem.W.subIn K (.ref kInvalidPrices) (.ref kInvalidPrices) = some true)
    (beInvalidRule : PySem.W.subIn K (.ref kInvalidRule) (.type "BaseException") = some true)
    (bdInvalidRule : PySem.W.hasDictIn K kInvalidRule = true)
    (btInvalidRule : PySem.W.typeIn K (.ref kInvalidRule) = some (.type "type"))
    (esInvalidPrices_InvalidRule : PySem.W.subIn K (.ref kInvalidPrices) (.ref kInvalidRule) = some false)
    (beInvalidWords : PySem.W.subIn K (.ref kInvalidWords) (.type "BaseException") = some true)
    (bdInvalidWords : PySem.W.hasDictIn K kInvalidWords = true)
    (btInvalidWords : PySem.W.typeIn K (.ref kInvalidWords) = some (.type "type"))
    (esInvalidPrices_InvalidWords : PySem.W.subIn K (.ref kInvalidPrices) (.ref kInvalidWords) = some false)
    (esInvalidRule_InvalidPrices : PySem.W.subIn K (.ref kInvalidRule) (.ref kInvalidPrices) = some false)
    (esInvalidRule_InvalidRule : PySem.W.subIn K (.ref kInvalidRule) (.ref kInvalidRule) = some true)
    (esInvalidRule_InvalidWords : PySem.W.subIn K (.ref kInvalidRule) (.ref kInvalidWords) = some false)
    (esInvalidWords_InvalidPrices : PySem.W.subIn K (.ref kInvalidWords) (.ref kInvalidPrices) = some false)
    (esInvalidWords_InvalidRule : PySem.W.subIn K (.ref kInvalidWords) (.ref kInvalidRule) = some false)
    (esInvalidWords_InvalidWords : PySem.W.subIn K (.ref kInvalidWords) (.ref kInvalidWords) = some true)
    (xgInvalidPrices : PySem.W.findIn K (.ref kInvalidPrices) "__getattribute__" = some (some (.builtin "BaseException.__getattribute__")))
    (xhInvalidPrices : PySem.W.findIn K (.ref kInvalidPrices) "__getattr__" = some none)
    (beFindError : PySem.W.subIn K (.ref kFindError) (.type "BaseException") = some true)
    (bdFindError : PySem.W.hasDictIn K kFindError = true)
    (btFindError : PySem.W.typeIn K (.ref kFindError) = some (.type "type"))
    (kaInvalidPrices : PySem.W.findIn K (.ref kInvalidPrices) "__class__" = some (some (.builtin "object.__class__")))
    (kmInvalidPrices : PySem.W.mroIn K kInvalidPrices (.type "object") = some true)
    (knX : PySem.W.specialIn K (.builtin "object.__class__") "__get__" = some (some (.builtin "getset_descriptor.__get__")))
    (ktX : PySem.W.takesIn K (.builtin "object.__class__") = some true)
    (kqInvalidPrices_FindError : PySem.W.subIn K (.ref kInvalidPrices) (.ref kFindError) = some true)
    (kkFindError : (PySem.W.clsIn K kFindError).isSome = true)
    (xgInvalidRule : PySem.W.findIn K (.ref kInvalidRule) "__getattribute__" = some (some (.builtin "BaseException.__getattribute__")))
    (xhInvalidRule : PySem.W.findIn K (.ref kInvalidRule) "__getattr__" = some none)
    (nxInvalidRule_part : PySem.W.findIn K (.ref kInvalidRule) "part" = some none)
    (pgBook : PySem.W.plainGet K kBook Str.empty = true)
    (hdBook : PySem.W.hasDictIn K kBook = true)
    (poBook : PySem.W.plainOver K kBook = true)
    (saBook : PySem.W.findIn K (.ref kBook) "__setattr__" = some (some (.builtin "object.__setattr__")))
    (mkBook : PySem.W.makesIn K kBook = true)
    (kcBook : PySem.W.keepIn K (.ref kBook) = true)
    {cPARTS cPARTS_0 cPARTS_1 cPARTS_2 cPARTS_3 cPARTS_4 cPARTS_5 : Addr} {esPARTS : Array DictEntry} {nPARTS : Nat}
    (g_PARTS : PySem.W.nsIn K mainGlobals "PARTS" = some (some (.ref cPARTS)))
    (ldPARTS : K.lookup cPARTS = some ⟨.type "dict", none, .dict esPARTS nPARTS, #[]⟩)
    (kkPARTS : PySem.W.KeysLit w.params esPARTS.toList)
    (loPARTS : (cPARTS == sysModules) = false)
    (enPARTS : Paired EntIs esPARTS.toList ([(.inr "counts", .ref cPARTS_0), (.inr "evening", .ref cPARTS_1), (.inr "lost", .ref cPARTS_2), (.inr "remembers", .ref cPARTS_3), (.inr "search", .ref cPARTS_4), (.inr "tells", .ref cPARTS_5)] : List (Key × V)))
    {ddPARTS_0 : Option Addr} {itsPARTS_0 : Array Value} {mPARTS_0 : Nat} {slPARTS_0 : Array (Option Value)}
    (ltPARTS_0 : K.lookup cPARTS_0 = some ⟨.type "tuple", ddPARTS_0, .seq itsPARTS_0 mPARTS_0, slPARTS_0⟩)
    (szPARTS_0 : itsPARTS_0.size ≤ sizeLine)
    (vlPARTS_0 : Vals [.str "comes", .str "fits"] itsPARTS_0.toList)
    {ddPARTS_1 : Option Addr} {itsPARTS_1 : Array Value} {mPARTS_1 : Nat} {slPARTS_1 : Array (Option Value)}
    (ltPARTS_1 : K.lookup cPARTS_1 = some ⟨.type "tuple", ddPARTS_1, .seq itsPARTS_1 mPARTS_1, slPARTS_1⟩)
    (szPARTS_1 : itsPARTS_1.size ≤ sizeLine)
    (vlPARTS_1 : Vals [.str "looks", .str "sends"] itsPARTS_1.toList)
    {ddPARTS_2 : Option Addr} {itsPARTS_2 : Array Value} {mPARTS_2 : Nat} {slPARTS_2 : Array (Option Value)}
    (ltPARTS_2 : K.lookup cPARTS_2 = some ⟨.type "tuple", ddPARTS_2, .seq itsPARTS_2 mPARTS_2, slPARTS_2⟩)
    (szPARTS_2 : itsPARTS_2.size ≤ sizeLine)
    (vlPARTS_2 : Vals [.str "again", .str "noted"] itsPARTS_2.toList)
    {ddPARTS_3 : Option Addr} {itsPARTS_3 : Array Value} {mPARTS_3 : Nat} {slPARTS_3 : Array (Option Value)}
    (ltPARTS_3 : K.lookup cPARTS_3 = some ⟨.type "tuple", ddPARTS_3, .seq itsPARTS_3 mPARTS_3, slPARTS_3⟩)
    (szPARTS_3 : itsPARTS_3.size ≤ sizeLine)
    (vlPARTS_3 : Vals [.str "number", .str "price", .str "thing"] itsPARTS_3.toList)
    {ddPARTS_4 : Option Addr} {itsPARTS_4 : Array Value} {mPARTS_4 : Nat} {slPARTS_4 : Array (Option Value)}
    (ltPARTS_4 : K.lookup cPARTS_4 = some ⟨.type "tuple", ddPARTS_4, .seq itsPARTS_4 mPARTS_4, slPARTS_4⟩)
    (szPARTS_4 : itsPARTS_4.size ≤ sizeLine)
    (vlPARTS_4 : Vals [.str "forgets", .str "keeps"] itsPARTS_4.toList)
    {ddPARTS_5 : Option Addr} {itsPARTS_5 : Array Value} {mPARTS_5 : Nat} {slPARTS_5 : Array (Option Value)}
    (ltPARTS_5 : K.lookup cPARTS_5 = some ⟨.type "tuple", ddPARTS_5, .seq itsPARTS_5 mPARTS_5, slPARTS_5⟩)
    (szPARTS_5 : itsPARTS_5.size ≤ sizeLine)
    (vlPARTS_5 : Vals [.str "evening", .str "now"] itsPARTS_5.toList)
    {cWORDS : Addr} {ddWORDS : Option Addr} {itsWORDS : Array Value} {mWORDS : Nat} {slWORDS : Array (Option Value)}
    (ltWORDS : K.lookup cWORDS = some ⟨.type "tuple", ddWORDS, .seq itsWORDS mWORDS, slWORDS⟩)
    (szWORDS : itsWORDS.size ≤ sizeLine)
    (vlWORDS : Vals [.str "anew", .str "lose", .str "number", .str "pause", .str "price", .str "search"] itsWORDS.toList)
    (g_WORDS : PySem.W.nsIn K mainGlobals "WORDS" = some (some (.ref cWORDS)))
    (n_all : PySem.W.nsIn K mainGlobals "all" = some none)
    (n_bool : PySem.W.nsIn K mainGlobals "bool" = some none)
    (n_dict : PySem.W.nsIn K mainGlobals "dict" = some none)
    (n_int : PySem.W.nsIn K mainGlobals "int" = some none)
    (n_isinstance : PySem.W.nsIn K mainGlobals "isinstance" = some none)
    (n_len : PySem.W.nsIn K mainGlobals "len" = some none)
    (n_list : PySem.W.nsIn K mainGlobals "list" = some none)
    (n_max : PySem.W.nsIn K mainGlobals "max" = some none)
    (n_range : PySem.W.nsIn K mainGlobals "range" = some none)
    (n_repr : PySem.W.nsIn K mainGlobals "repr" = some none)
    (n_sorted : PySem.W.nsIn K mainGlobals "sorted" = some none)
    (n_str : PySem.W.nsIn K mainGlobals "str" = some none)
    (n_tuple : PySem.W.nsIn K mainGlobals "tuple" = some none)
    (at_Book_highest : PySem.W.findIn K (.ref kBook) "highest" = some none)
    (at_Book_kinds : PySem.W.findIn K (.ref kBook) "kinds" = some none)
    (at_Book_terms : PySem.W.findIn K (.ref kBook) "terms" = some none)
    (haBook : PySem.W.findIn K (.ref kBook) "__class__" = some (some (.builtin "object.__class__")))
    (hnBook : PySem.W.specialIn K (.builtin "object.__class__") "__get__" = some (some (.builtin "getset_descriptor.__get__")))
    (htBook : PySem.W.takesIn K (.builtin "object.__class__") = some true)
    (hmBook : PySem.W.mroIn K kBook (.type "object") = some true)
    (kkBook : (PySem.W.clsIn K kBook).isSome = true)
    (btBook : PySem.W.typeIn K (.ref kBook) = some (.type "type")) :
    ∃ (a : Ad) (fd : FuncData), (∀ (s : Shared) (v : Value), BindsTo s fd ⟨[v], []⟩ [("_law_script", v)]) ∧ ∀ base : Heap, K.In base → base.Ns mainGlobals mg → FnOk l.prog w K mg base (L2.CX l.prog w) 9 fa fd ["_law_script"] (spD K 1 (ct_law a)) := by
  have e := hfa.symm.trans (PySem.W.mg_of X G a23)
  cases e
  have T : Txt l.prog K mg w ⟨kBook, cPARTS, cPARTS_0, cPARTS_1, cPARTS_2, cPARTS_3, cPARTS_4, cPARTS_5, cWORDS, kFindError, kInvalidPrices, kInvalidRule, kInvalidWords, LX.ne_of esInvalidPrices_InvalidRule esInvalidRule_InvalidRule, LX.ne_of esInvalidPrices_InvalidWords esInvalidWords_InvalidWords, LX.ne_of esInvalidRule_InvalidWords esInvalidWords_InvalidWords⟩ := {
    g_Book := PySem.W.mg_of X G gkBook,
    g_PARTS := PySem.W.mg_of X G g_PARTS,
    D_PARTS := ⟨⟨esPARTS, nPARTS, ldPARTS, kkPARTS, enPARTS⟩, loPARTS, (by show List.Nodup ([.inr "counts", .inr "evening", .inr "lost", .inr "remembers", .inr "search", .inr "tells"] : List Key); decide +kernel), (by show 6 ≤ sizeLine; decide)⟩,
    l_PARTS := fun _ _ => .cons ((.tup (.inr ⟨_, itsPARTS_0, mPARTS_0, ltPARTS_0, rfl, rfl, szPARTS_0, vlPARTS_0⟩) (.cons (.str _) (.cons (.str _) (.nil))))) (.cons ((.tup (.inr ⟨_, itsPARTS_1, mPARTS_1, ltPARTS_1, rfl, rfl, szPARTS_1, vlPARTS_1⟩) (.cons (.str _) (.cons (.str _) (.nil))))) (.cons ((.tup (.inr ⟨_, itsPARTS_2, mPARTS_2, ltPARTS_2, rfl, rfl, szPARTS_2, vlPARTS_2⟩) (.cons (.str _) (.cons (.str _) (.nil))))) (.cons ((.tup (.inr ⟨_, itsPARTS_3, mPARTS_3, ltPARTS_3, rfl, rfl, szPARTS_3, vlPARTS_3⟩) (.cons (.str _) (.cons (.str _) (.cons (.str _) (.nil)))))) (.cons ((.tup (.inr ⟨_, itsPARTS_4, mPARTS_4, ltPARTS_4, rfl, rfl, szPARTS_4, vlPARTS_4⟩) (.cons (.str _) (.cons (.str _) (.nil))))) (.cons ((.tup (.inr ⟨_, itsPARTS_5, mPARTS_5, ltPARTS_5, rfl, rfl, szPARTS_5, vlPARTS_5⟩) (.cons (.str _) (.cons (.str _) (.nil))))) (.nil)))))),
    g_WORDS := PySem.W.mg_of X G g_WORDS,
    i_WORDS := fun _ _ => (.tup (.inr ⟨_, itsWORDS, mWORDS, ltWORDS, rfl, rfl, szWORDS, vlWORDS⟩) (.cons (.str _) (.cons (.str _) (.cons (.str _) (.cons (.str _) (.cons (.str _) (.cons (.str _) (.nil)))))))),
    n_all := PySem.W.mg_none_of X G n_all,
    n_bool := PySem.W.mg_none_of X G n_bool,
    n_dict := PySem.W.mg_none_of X G n_dict,
    n_int := PySem.W.mg_none_of X G n_int,
    n_isinstance := PySem.W.mg_none_of X G n_isinstance,
    n_len := PySem.W.mg_none_of X G n_len,
    n_list := PySem.W.mg_none_of X G n_list,
    n_max := PySem.W.mg_none_of X G n_max,
    n_range := PySem.W.mg_none_of X G n_range,
    n_repr := PySem.W.mg_none_of X G n_repr,
    n_sorted := PySem.W.mg_none_of X G n_sorted,
    n_str := PySem.W.mg_none_of X G n_str,
    n_tuple := PySem.W.mg_none_of X G n_tuple,
    at_Book_highest := ⟨⟨pgBook, hdBook, poBook, saBook⟩, at_Book_highest⟩,
    at_Book_kinds := ⟨⟨pgBook, hdBook, poBook, saBook⟩, at_Book_kinds⟩,
    at_Book_terms := ⟨⟨pgBook, hdBook, poBook, saBook⟩, at_Book_terms⟩,
    is_Book := isiQ_KB ⟨⟨⟨pgBook, hdBook, poBook, saBook⟩, haBook, hnBook, htBook, hmBook⟩, kkBook, btBook⟩,
    df_is_integer := ⟨f0, _, fun_mk (st := s_is_integer) l0 c0 k0, (fun_mk (st := s_is_integer) l0 c0 k0).binds (ps := P_is_integer) fun _ _ _ _ _ _ us hl => match us, hl with | [_, _, _], _ => rfl, PySem.W.mg_of X G a0, k0⟩,
    df_is_word := ⟨f1, _, fun_mk (st := s_is_word) l1 c1 k1, (fun_mk (st := s_is_word) l1 c1 k1).binds (ps := P_is_word) fun _ _ _ _ _ _ us hl => match us, hl with | [_, _], _ => rfl, PySem.W.mg_of X G a1, k1⟩,
    df_check_rule := ⟨f2, _, fun_mk (st := s_check_rule) l2 c2 k2, (fun_mk (st := s_check_rule) l2 c2 k2).binds (ps := P_check_rule) fun _ _ _ _ _ _ us hl => match us, hl with | [_], _ => rfl, PySem.W.mg_of X G a2, k2⟩,
    dc_Book := ⟨f3, _, fun_mk (st := s_Book_init) l3 c3 k3, (fun_mk (st := s_Book_init) l3 c3 k3).binds (ps := P_Book_init) fun _ _ _ _ _ _ us hl => match us, hl with | [_, _, _, _], _ => rfl, PySem.W.mg_of X G gkBook, ⟨mkBook, a3, i3, kcBook⟩⟩,
    dp_Book_prices := ⟨pp4, f4, _, fun_mk (st := s_Book_p_prices) l4 c4 k4, (fun_mk (st := s_Book_p_prices) l4 c4 k4).binds (ps := P_Book_p_prices) fun _ _ _ _ _ _ us hl => match us, hl with | [_], _ => rfl, ⟨a4, pG4, pT4, _, pR4⟩, ⟨pgBook, hdBook, poBook, saBook⟩⟩,
    dp_Book_rule := ⟨pp5, f5, _, fun_mk (st := s_Book_p_rule) l5 c5 k5, (fun_mk (st := s_Book_p_rule) l5 c5 k5).binds (ps := P_Book_p_rule) fun _ _ _ _ _ _ us hl => match us, hl with | [_], _ => rfl, ⟨a5, pG5, pT5, _, pR5⟩, ⟨pgBook, hdBook, poBook, saBook⟩⟩,
    dp_Book_words := ⟨pp6, f6, _, fun_mk (st := s_Book_p_words) l6 c6 k6, (fun_mk (st := s_Book_p_words) l6 c6 k6).binds (ps := P_Book_p_words) fun _ _ _ _ _ _ us hl => match us, hl with | [_], _ => rfl, ⟨a6, pG6, pT6, _, pR6⟩, ⟨pgBook, hdBook, poBook, saBook⟩⟩,
    dt_Book_changed := ⟨f7, _, fun_mk (st := s_Book_t_changed) l7 c7 k7, (fun_mk (st := s_Book_t_changed) l7 c7 k7).binds (ps := P_Book_t_changed) fun _ _ _ _ _ _ us hl => match us, hl with | [_, _, _], _ => rfl, ⟨pgBook, hdBook, poBook, saBook⟩, ⟨a7, i7, k7⟩⟩,
    de_Book := ⟨f8, _, fun_mk (st := s_Book_eq) l8 c8 k8, (fun_mk (st := s_Book_eq) l8 c8 k8).binds (ps := P_Book_eq) fun _ _ _ _ _ _ us hl => match us, hl with | [_, _], _ => rfl, a8, i8⟩,
    df__law_mix := ⟨f9, _, fun_mk (st := s_law_mix) l9 c9 k9, (fun_mk (st := s_law_mix) l9 c9 k9).binds (ps := P_law_mix) fun _ _ _ _ _ _ us hl => match us, hl with | [_, _], _ => rfl, PySem.W.mg_of X G a9, k9⟩,
    df__law_next := ⟨f10, _, fun_mk (st := s_law_next) l10 c10 k10, (fun_mk (st := s_law_next) l10 c10 k10).binds (ps := P_law_next) fun _ _ _ _ _ _ us hl => match us, hl with | [_, _], _ => rfl, PySem.W.mg_of X G a10, k10⟩,
    df__law_alike := ⟨f11, _, fun_mk (st := s_law_alike) l11 c11 k11, (fun_mk (st := s_law_alike) l11 c11 k11).binds (ps := P_law_alike) fun _ _ _ _ _ _ us hl => match us, hl with | [_, _], _ => rfl, PySem.W.mg_of X G a11, k11⟩,
    df__law_pick := ⟨f12, _, fun_mk (st := s_law_pick) l12 c12 k12, (fun_mk (st := s_law_pick) l12 c12 k12).binds (ps := P_law_pick) fun _ _ _ _ _ _ us hl => match us, hl with | [_, _], _ => rfl, PySem.W.mg_of X G a12, k12⟩,
    df__law_parts := ⟨f13, _, fun_mk (st := s_law_parts) l13 c13 k13, (fun_mk (st := s_law_parts) l13 c13 k13).binds (ps := P_law_parts) fun _ _ _ _ _ _ us hl => match us, hl with | [], _ => rfl, PySem.W.mg_of X G a13, k13⟩,
    df__law_rule := ⟨f14, _, fun_mk (st := s_law_rule) l14 c14 k14, (fun_mk (st := s_law_rule) l14 c14 k14).binds (ps := P_law_rule) fun _ _ _ _ _ _ us hl => match us, hl with | [_], _ => rfl, PySem.W.mg_of X G a14, k14⟩,
    df__law_words := ⟨f15, _, fun_mk (st := s_law_words) l15 c15 k15, (fun_mk (st := s_law_words) l15 c15 k15).binds (ps := P_law_words) fun _ _ _ _ _ _ us hl => match us, hl with | [_, _], _ => rfl, PySem.W.mg_of X G a15, k15⟩,
    df__law_with := ⟨f16, _, fun_mk (st := s_law_with) l16 c16 k16, (fun_mk (st := s_law_with) l16 c16 k16).binds (ps := P_law_with) fun _ _ _ _ _ _ us hl => match us, hl with | [_, _, _], _ => rfl, PySem.W.mg_of X G a16, k16⟩,
    df__law_draw := ⟨f17, _, fun_mk (st := s_law_draw) l17 c17 k17, (fun_mk (st := s_law_draw) l17 c17 k17).binds (ps := P_law_draw) fun _ _ _ _ _ _ us hl => match us, hl with | [_], _ => rfl, PySem.W.mg_of X G a17, k17⟩,
    df__law_built := ⟨f18, _, fun_mk (st := s_law_built) l18 c18 k18, (fun_mk (st := s_law_built) l18 c18 k18).binds (ps := P_law_built) fun _ _ _ _ _ _ us hl => match us, hl with | [_], _ => rfl, PySem.W.mg_of X G a18, k18⟩,
    df__law_rule_fault := ⟨f19, _, fun_mk (st := s_law_rule_fault) l19 c19 k19, (fun_mk (st := s_law_rule_fault) l19 c19 k19).binds (ps := P_law_rule_fault) fun _ _ _ _ _ _ us hl => match us, hl with | [_], _ => rfl, PySem.W.mg_of X G a19, k19⟩,
    df__law_fault := ⟨f20, _, fun_mk (st := s_law_fault) l20 c20 k20, (fun_mk (st := s_law_fault) l20 c20 k20).binds (ps := P_law_fault) fun _ _ _ _ _ _ us hl => match us, hl with | [_], _ => rfl, PySem.W.mg_of X G a20, k20⟩,
    df__law_tried := ⟨f21, _, fun_mk (st := s_law_tried) l21 c21 k21, (fun_mk (st := s_law_tried) l21 c21 k21).binds (ps := P_law_tried) fun _ _ _ _ _ _ us hl => match us, hl with | [_, _, _, _], _ => rfl, PySem.W.mg_of X G a21, k21⟩,
    df__law_spoiled := ⟨f22, _, fun_mk (st := s_law_spoiled) l22 c22 k22, (fun_mk (st := s_law_spoiled) l22 c22 k22).binds (ps := P_law_spoiled) fun _ _ _ _ _ _ us hl => match us, hl with | [_, _], _ => rfl, PySem.W.mg_of X G a22, k22⟩,
    e_InvalidPrices_InvalidPrices := PySem.W.exm_ref beInvalidPrices bdInvalidPrices btInvalidPrices esInvalidPrices_InvalidPrices,
    e_InvalidPrices_InvalidRule := PySem.W.exm_ref beInvalidRule bdInvalidRule btInvalidRule esInvalidPrices_InvalidRule,
    e_InvalidPrices_InvalidWords := PySem.W.exm_ref beInvalidWords bdInvalidWords btInvalidWords esInvalidPrices_InvalidWords,
    e_InvalidRule_InvalidPrices := PySem.W.exm_ref beInvalidPrices bdInvalidPrices btInvalidPrices esInvalidRule_InvalidPrices,
    e_InvalidRule_InvalidRule := PySem.W.exm_ref beInvalidRule bdInvalidRule btInvalidRule esInvalidRule_InvalidRule,
    e_InvalidRule_InvalidWords := PySem.W.exm_ref beInvalidWords bdInvalidWords btInvalidWords esInvalidRule_InvalidWords,
    e_InvalidWords_InvalidPrices := PySem.W.exm_ref beInvalidPrices bdInvalidPrices btInvalidPrices esInvalidWords_InvalidPrices,
    e_InvalidWords_InvalidRule := PySem.W.exm_ref beInvalidRule bdInvalidRule btInvalidRule esInvalidWords_InvalidRule,
    e_InvalidWords_InvalidWords := PySem.W.exm_ref beInvalidWords bdInvalidWords btInvalidWords esInvalidWords_InvalidWords,
    xs_InvalidPrices := ⟨xgInvalidPrices, xhInvalidPrices, beInvalidPrices, bdInvalidPrices, kaInvalidPrices, knX, ktX, kmInvalidPrices⟩,
    ki_InvalidPrices_FindError := kit_any kkFindError btFindError kqInvalidPrices_FindError,
    gx_FindError := PySem.W.mg_of X G gkFindError,
    gx_InvalidPrices := PySem.W.mg_of X G gkInvalidPrices,
    gx_InvalidRule := PySem.W.mg_of X G gkInvalidRule,
    gx_InvalidWords := PySem.W.mg_of X G gkInvalidWords,
    x_InvalidPrices := xc_nil (F := ⟨"__init__", "InvalidPrices.__init__", defArgs s_xInvalidPrices, defBody s_xInvalidPrices, defScope s_xInvalidPrices, [(("__class__" : Str), xccInvalidPrices)], xcdInvalidPrices⟩) ⟨⟨⟨_, _, _, _, _, _, _, _, _, _, _, _, _, _, _, lcInvalidPrices, by rfl⟩, saInvalidPrices, ecInvalidPrices, tyInvalidPrices, kcInvalidPrices⟩, ⟨_, _, _, _, _, _, _, _, _, lfInvalidPrices⟩, ⟨_, rfl, _, _, _, llInvalidPrices⟩, hcInvalidPrices, ⟨_, _, _, _, _, _, lkInvalidPrices, hvInvalidPrices, hfInvalidPrices⟩, suInvalidPrices, tpX, smInvalidPrices, sVInvalidPrices, hTop, PySem.W.mg_none_of X G msX⟩ (xw_InvalidPrices xccInvalidPrices xcdInvalidPrices) lfInvalidPrices (PySem.W.mg_of X G gkInvalidPrices) iiInvalidPrices itInvalidPrices,
    x_InvalidRule := xc_one (F := ⟨"__init__", "InvalidRule.__init__", defArgs s_xInvalidRule, defBody s_xInvalidRule, defScope s_xInvalidRule, [(("__class__" : Str), xccInvalidRule)], xcdInvalidRule⟩) ⟨⟨⟨_, _, _, _, _, _, _, _, _, _, _, _, _, _, _, lcInvalidRule, by rfl⟩, saInvalidRule, ecInvalidRule, tyInvalidRule, kcInvalidRule⟩, ⟨_, _, _, _, _, _, _, _, _, lfInvalidRule⟩, ⟨_, rfl, _, _, _, llInvalidRule⟩, hcInvalidRule, ⟨_, _, _, _, _, _, lkInvalidRule, hvInvalidRule, hfInvalidRule⟩, suInvalidRule, tpX, smInvalidRule, sVInvalidRule, hTop, PySem.W.mg_none_of X G msX⟩ (xw_InvalidRule xccInvalidRule xcdInvalidRule) lfInvalidRule rfl rfl (PySem.W.mg_of X G gkInvalidRule) iiInvalidRule itInvalidRule nfInvalidRule_part rfl rfl (by decide) (by decide),
    x_InvalidWords := xc_nil (F := ⟨"__init__", "InvalidWords.__init__", defArgs s_xInvalidWords, defBody s_xInvalidWords, defScope s_xInvalidWords, [(("__class__" : Str), xccInvalidWords)], xcdInvalidWords⟩) ⟨⟨⟨_, _, _, _, _, _, _, _, _, _, _, _, _, _, _, lcInvalidWords, by rfl⟩, saInvalidWords, ecInvalidWords, tyInvalidWords, kcInvalidWords⟩, ⟨_, _, _, _, _, _, _, _, _, lfInvalidWords⟩, ⟨_, rfl, _, _, _, llInvalidWords⟩, hcInvalidWords, ⟨_, _, _, _, _, _, lkInvalidWords, hvInvalidWords, hfInvalidWords⟩, suInvalidWords, tpX, smInvalidWords, sVInvalidWords, hTop, PySem.W.mg_none_of X G msX⟩ (xw_InvalidWords xccInvalidWords xcdInvalidWords) lfInvalidWords (PySem.W.mg_of X G gkInvalidWords) iiInvalidWords itInvalidWords,
    xf_InvalidRule := ⟨xgInvalidRule, xhInvalidRule, beInvalidRule, bdInvalidRule⟩,
    no_InvalidRule_part := nxInvalidRule_part }
  exact ⟨⟨kBook, cPARTS, cPARTS_0, cPARTS_1, cPARTS_2, cPARTS_3, cPARTS_4, cPARTS_5, cWORDS, kFindError, kInvalidPrices, kInvalidRule, kInvalidWords, LX.ne_of esInvalidPrices_InvalidRule esInvalidRule_InvalidRule, LX.ne_of esInvalidPrices_InvalidWords esInvalidWords_InvalidWords, LX.ne_of esInvalidRule_InvalidWords esInvalidWords_InvalidWords⟩, PySem.W.fnOf "law" "law" (defArgs s_law) (defBody s_law) (defScope s_law) .none kV23 dc23 pm23 an23 cd23 ct23, fun s v => .of_eq rfl, fun base _ _ => law_fn T (fun_mk (st := s_law) l23 c23 k23)⟩
end LX

namespace LX
open PySem L2 DL
/-- a source of draws -/
structure Src where
  st : Int
  ix : Int
  cells : List Int
  hc : cells.length ≤ 63
def src (s : Src) : List Ob := [.lst (s.cells.map D.int), .lst [.int s.st, .loc 0, .int s.ix]]
def Src.m (s : Src) : Int := if (1 : Int) < (s.cells.length : Int) then (s.cells.length : Int) else 1
def Src.i (s : Src) : Nat := (s.ix % s.m).toNat
def Src.cell (s : Src) : Int := (s.cells ++ [0]).getD s.i 0
def Src.next (s : Src) (cap : Int) : Int × Src :=
  if (1000000000000000000 : Int) ≤ s.cell then (s.cell % cap, ⟨s.st, s.ix, s.cells.set s.i (s.cell / cap), by rw [List.length_set]; exact s.hc⟩)
  else ((s.st * 48271 + s.cell * 69621 + 11) % 2147483647 / 7 % cap, ⟨(s.st * 48271 + s.cell * 69621 + 11) % 2147483647, s.ix + 1, s.cells, s.hc⟩)
theorem next_rng (s : Src) {cap : Int} (h : 0 < cap) : 0 ≤ (s.next cap).1 ∧ (s.next cap).1 < cap := by
  unfold Src.next
  split
  · exact ⟨Int.emod_nonneg _ (by omega), Int.emod_lt_of_pos _ h⟩
  · exact ⟨Int.emod_nonneg _ (by omega), Int.emod_lt_of_pos _ h⟩
theorem sc_ints {n : Nat} : ∀ xs : List Int, scL n (xs.map D.int) = true
  | [] => by simp [scL]
  | x :: xs => by rw [List.map_cons, scL, sc_ints xs]; simp [D.sc]
theorem old_src (s s' : Src) (j : List Ob) : Old (src s ++ j) (src s' ++ j) := by
  refine ⟨by simp [src], fun k o hk e => ?_⟩
  match k, e with
  | 0, e =>
    simp [src] at e
    subst e
    exact .inr (sc_ints _)
  | 1, e =>
    simp [src] at e
    subst e
    right
    simp [Ob.sc, scL, D.sc, src]
  | k + 2, e => exact .inl (by simpa [src] using e)
theorem p18 : (10 : Int) ^ (18 : Nat) = 1000000000000000000 := by decide +kernel
theorem next_ok (a : Ad) (s : Src) (j : List Ob) (cap : Int) (h0 : 0 < cap) (h1 : cap < 1073741824) : ct__law_next a [.loc 1, .int cap] (src s ++ j) = .ok (.int (s.next cap).1) (src (s.next cap).2 ++ j) := by
  refine ctT_rt (j := []) ?_ (old_src _ _ _) (by simp [D.sc])
  rw [List.append_nil]
  have hl : s.cells.length ≤ 16777215 := by have := s.hc; omega
  have hm : (if (1 : Int) < (s.cells.length : Int) then (s.cells.length : Int) else 1) = s.m := rfl
  have m0 : 0 < s.m := by unfold Src.m; split <;> omega
  have m1 : s.m ≤ s.cells.length + 1 := by unfold Src.m; split <;> omega
  have m2 : 0 < s.cells.length → s.m = s.cells.length := fun h => by unfold Src.m; split <;> omega
  have j0 := Int.emod_nonneg s.ix (Int.ne_of_gt m0)
  have j1 := Int.emod_lt_of_pos s.ix m0
  have hi : (s.i : Int) = s.ix % s.m := by unfold Src.i; omega
  have hcell : atI (List.map D.int s.cells ++ [D.int 0]) (s.ix % s.m) = some (.int s.cell) := by
    obtain ⟨x, h1, h2⟩ := atI_in (xs := List.map D.int s.cells ++ [D.int 0]) (i := s.ix % s.m) j0 (by simp; omega)
    rw [h1, ← h2]
    have e : List.map D.int s.cells ++ [D.int 0] = (s.cells ++ [0]).map D.int := by simp
    rw [e, List.getElem?_map]
    unfold Src.cell
    rw [List.getD_eq_getElem?_getD]
    have hlt : s.i < (s.cells ++ [0]).length := by simp; omega
    show Option.map D.int (s.cells ++ [0])[s.i]? = _
    rw [List.getElem?_eq_getElem hlt]
    rfl
  have hbig : 1000000000000000000 ≤ s.cell → 0 < s.cells.length := fun h => by
    rcases Nat.eq_zero_or_pos s.cells.length with z | z
    · have z' : s.cells = [] := List.length_eq_zero_iff.mp z
      unfold Src.cell at h
      rw [z'] at h
      have : ∀ k : Nat, ([0] : List Int).getD k 0 = 0 := fun k => by cases k <;> simp
      have e : ([] ++ [0] : List Int).getD s.i 0 = 0 := this _
      rw [e] at h
      omega
    · exact z
  by_cases hb : (1000000000000000000 : Int) ≤ s.cell
  · have hp := hbig hb
    have hm2 := m2 hp
    have hix : ixN s.cells.length (s.ix % (s.cells.length : Int)) = some s.i := by
      rw [← hm2]
      have := ixN_in (n := s.cells.length) (i := s.ix % s.m) j0 (by rw [← hm2]; exact j1)
      exact this
    have hpi : (0 : Int) < (s.cells.length : Int) := by omega
    have en : s.next cap = (s.cell % cap, ⟨s.st, s.ix, s.cells.set s.i (s.cell / cap), by rw [List.length_set]; exact s.hc⟩) := by unfold Src.next; rw [if_pos hb]
    rw [en]
    unfold r_law_next src
    simp [hl, hm, m0, hcell, hb, hp, h0, h1, storeD, hix]
  · have en : s.next cap = ((s.st * 48271 + s.cell * 69621 + 11) % 2147483647 / 7 % cap, ⟨(s.st * 48271 + s.cell * 69621 + 11) % 2147483647, s.ix + 1, s.cells, s.hc⟩) := by unfold Src.next; rw [if_neg hb]
    rw [en]
    have i0 : ixN 3 0 = some 0 := rfl
    have i2 : ixN 3 2 = some 2 := rfl
    unfold r_law_next src
    simp [hl, hm, m0, hcell, hb, h0, h1, storeD, i0, i2]
end LX

namespace LX
open PySem L2 DL
theorem mix_ok (a : Ad) (ns : List Int) (h : ns.length ≤ 63) (seed : Int) : ∃ s : Src, ct__law_mix a [.frl (ns.map D.int), .int seed] [] = .ok (.loc 1) (src s) := by
  have e := (for_t (t := .nm 3) (body := rSet 2 (rBin modD (rCB intD (rCons (rBin addD (rBin addD (rBin mulD (rVar 2) (rC (.int 48271))) (rBin modD (rCB intD (rCons (rVar 3) rNil)) (rC (.int 2147483629)))) (rC (.int 1))) rNil)) (rC (.int 2147483647))))
    (S := fun s : Int × Option D => [some (.frl (ns.map D.int)), some (.int seed), some (.int s.1), s.2]) (M := fun _ => []) (enc := D.int) (step := fun s x => ((s.1 * 48271 + x % 2147483629 + 1) % 2147483647, some (.int x))) (fun _ => True) ns (seed, none) trivial
    fun s x _ _ => ⟨trivial, _, rfl, by simp⟩).2
  generalize ns.foldl (fun (s : Int × Option D) x => ((s.1 * 48271 + x % 2147483629 + 1) % 2147483647, some (D.int x))) (seed, none) = z at e
  obtain ⟨st, o⟩ := z
  refine ⟨⟨st, 0, ns, h⟩, ?_⟩
  unfold ct__law_mix ctOf r_law_mix
  dsimp only at e
  simp [e, itemsD, src]
/-- one of some things -/
def Src.pick (s : Src) (xs : List D) : D × Src := (xs.getD (s.next xs.length).1.toNat .non, (s.next xs.length).2)
theorem scL_get {n : Nat} : ∀ {xs : List D} {k : Nat} {d : D}, scL n xs = true → xs[k]? = some d → d.sc n = true
  | x :: xs, 0, d, h, e => by
    simp at e
    subst e
    rw [scL, Bool.and_eq_true] at h
    exact h.1
  | x :: xs, k + 1, d, h, e => by
    rw [scL, Bool.and_eq_true] at h
    exact scL_get h.2 (by simpa using e)
  | [], k, d, h, e => by simp at e
theorem pick_ok (a : Ad) (s : Src) (j : List Ob) (xs : List D) (h0 : 0 < xs.length) (h1 : xs.length < 1073741824) (hs : scL (src s ++ j).length xs = true) : ct__law_pick a [.loc 1, .lst xs] (src s ++ j) = .ok (s.pick xs).1 (src (s.pick xs).2 ++ j) := by
  have hn := next_ok a s j xs.length (by omega) (by omega)
  obtain ⟨r0, r1⟩ := next_rng s (cap := xs.length) (by omega)
  obtain ⟨x, e1, e2⟩ := atI_in (xs := xs) r0 r1
  have e3 : (s.pick xs).1 = x := by
    unfold Src.pick
    rw [List.getD_eq_getElem?_getD, e2]
    rfl
  refine ctT_rt (j := []) ?_ (old_src _ _ _) (by rw [e3]; exact scL_get hs e2)
  rw [e3]
  unfold r_law_pick
  simp [hn, e1, Src.pick]
def row (p : Str × List Str) : D := .lst (.str p.1 :: p.2.map D.str)
def PWs : List (Str × List Str) := [("counts", ["comes", "fits"]), ("evening", ["looks", "sends"]), ("lost", ["again", "noted"]), ("remembers", ["number", "price", "thing"]), ("search", ["forgets", "keeps"]), ("tells", ["evening", "now"])]
theorem parts_ok (a : Ad) (μ : List Ob) : ct__law_parts a [] μ = .ok (.lst (PWs.map row)) μ := by
  refine pu_rt ⟨[.lst [row ("counts", ["comes", "fits"]), row ("evening", ["looks", "sends"]), row ("lost", ["again", "noted"]), row ("remembers", ["number", "price", "thing"])]], ?_⟩ (by decide)
  unfold r_law_parts
  simp [apD, isLst, row, PWs]
end LX

namespace LX
open PySem L2 DL
noncomputable section
/-- a word drawn of some -/
def Src.wd (s : Src) (ws : List Str) : Str × Src := (ws.getD (s.next ws.length).1.toNat "", (s.next ws.length).2)
theorem wd_mem (s : Src) {ws : List Str} (h : 0 < ws.length) : (s.wd ws).1 ∈ ws := by
  obtain ⟨r0, r1⟩ := next_rng s (cap := ws.length) (by omega)
  unfold Src.wd
  rw [List.getD_eq_getElem?_getD]
  have hl : (s.next ws.length).1.toNat < ws.length := by omega
  rw [List.getElem?_eq_getElem hl]
  exact List.getElem_mem hl
theorem pick_wd (s : Src) {ws : List Str} (h : 0 < ws.length) : s.pick (ws.map D.str) = (.str (s.wd ws).1, (s.wd ws).2) := by
  obtain ⟨r0, r1⟩ := next_rng s (cap := ws.length) (by omega)
  unfold Src.pick Src.wd
  have hl : (s.next ws.length).1.toNat < ws.length := by omega
  simp [List.getD_eq_getElem?_getD, List.getElem?_eq_getElem hl]
theorem sc_strs {n : Nat} : ∀ xs : List Str, scL n (xs.map D.str) = true
  | [] => by simp [scL]
  | x :: xs => by rw [List.map_cons, scL, sc_strs xs]; simp [D.sc]
theorem wd_ok (a : Ad) (s : Src) (j : List Ob) (ws : List Str) (h0 : 0 < ws.length) (h1 : ws.length < 1073741824) : ct__law_pick a [.loc 1, .lst (ws.map D.str)] (src s ++ j) = .ok (.str (s.wd ws).1) (src (s.wd ws).2 ++ j) := by
  have := pick_ok a s j (ws.map D.str) (by simpa using h0) (by simpa using h1) (sc_strs ws)
  rw [this, pick_wd s h0]
/-- a rule: one word of each part -/
structure Rl where
  (c e l m s t : Str)
structure RlOk (r : Rl) : Prop where
  c : r.c ∈ (["comes", "fits"] : List Str)
  e : r.e ∈ (["looks", "sends"] : List Str)
  l : r.l ∈ (["again", "noted"] : List Str)
  m : r.m ∈ (["number", "price", "thing"] : List Str)
  s : r.s ∈ (["forgets", "keeps"] : List Str)
  t : r.t ∈ (["evening", "now"] : List Str)
def K6 : List Key := [.inr "counts", .inr "evening", .inr "lost", .inr "remembers", .inr "search", .inr "tells"]
def ruleD (r : Rl) : D := .dct K6 [.str r.c, .str r.e, .str r.l, .str r.m, .str r.s, .str r.t]
theorem cutL_1 {β : Type} {x : β} {xs : List β} : cutL (x :: xs) (some 1) none = xs := by
  have h1 : HT.sIx (x :: xs).length 0 (some 1) = 1 := by
    show (if (1 : Int) < 0 then ((1 : Int) + ((x :: xs).length : Int)).toNat else min (1 : Int).toNat (x :: xs).length) = 1
    rw [if_neg (by decide)]
    show min 1 (xs.length + 1) = 1
    omega
  have h2 : HT.sIx (x :: xs).length (x :: xs).length none = (x :: xs).length := rfl
  unfold cutL
  rw [h1, h2]
  simp
theorem src_l (s : Src) : (src s).length = 2 := rfl
theorem src_len (s : Src) (j : List Ob) : (src s ++ j).length = 2 + j.length := by rw [List.length_append, src_l]
/-- the store behind a source: one thing more -/
theorem at_src (s : Src) (j : List Ob) (o : Ob) : (src s ++ (j ++ [o]))[2 + j.length]? = some o := by
  have : src s ++ (j ++ [o]) = (src s ++ j) ++ [o] := by rw [List.append_assoc]
  rw [this, ← src_len s j, List.getElem?_concat_length]
theorem set_src (s : Src) (j : List Ob) (o o' : Ob) : (src s ++ (j ++ [o])).set (2 + j.length) o' = src s ++ (j ++ [o']) := by
  rw [List.set_append_right _ _ (by rw [src_l]; omega), src_l, List.set_append_right _ _ (by omega)]
  have : 2 + j.length - 2 - j.length = 0 := by omega
  rw [this]
  rfl
abbrev bRule (a : Ad) : RS := rAsgD (gSt (rVar 1) (rBin getD (rVar 2) (rC (.int 0)))) (rCall 2 (ct__law_pick a) (rCons (rVar 0) (rCons (rSlice (rVar 2) (rSome (rC (.int 1))) rNone) rNil)))
theorem rule_turn (a : Ad) (s : Src) (j : List Ob) (ks : List Key) (xs : List D) (p : Str × List Str) (hl : ks.length < 1000) (h0 : 0 < p.2.length) (h1 : p.2.length < 1000) :
    bRule a [some (.loc 1), some (.loc (2 + j.length)), some (row p)] (src s ++ (j ++ [.dct ks xs])) = .nx [some (.loc 1), some (.loc (2 + j.length)), some (row p)] (src (s.wd p.2).2 ++ (j ++ [.dct (putKs ks (.inr p.1)) (putXs ks xs (.inr p.1) (.str (s.wd p.2).1))])) := by
  have e1 := wd_ok a s (j ++ [.dct ks xs]) p.2 h0 (by omega)
  have hk : ks.length < 16777216 := by omega
  unfold row
  simp [cutL_1, e1, storeD, D.key, hk, at_src, set_src]
theorem rule_row (a : Ad) (s : Src) (j : List Ob) (ks : List Key) (xs : List D) (p : Str × List Str) (ds : List D) (o : Option D) (hl : ks.length < 1000) (h0 : 0 < p.2.length) (h1 : p.2.length < 1000) :
    ∃ w s', w ∈ p.2 ∧ forL (.nm 2) (bRule a) (row p :: ds) [some (.loc 1), some (.loc (2 + j.length)), o] (src s ++ (j ++ [.dct ks xs])) = forL (.nm 2) (bRule a) ds [some (.loc 1), some (.loc (2 + j.length)), some (row p)] (src s' ++ (j ++ [.dct (putKs ks (.inr p.1)) (putXs ks xs (.inr p.1) (.str w))])) := by
  have e := rule_turn a s j ks xs p hl h0 h1
  refine ⟨(s.wd p.2).1, (s.wd p.2).2, wd_mem s h0, ?_⟩
  rw [forL]
  show (match bRule a [some (.loc 1), some (.loc (2 + j.length)), some (row p)] (src s ++ (j ++ [.dct ks xs])) with
    | .nx δ2 μ2 => forL (.nm 2) (bRule a) ds δ2 μ2
    | .ct δ2 μ2 => forL (.nm 2) (bRule a) ds δ2 μ2
    | .bk δ2 μ2 => .nx δ2 μ2
    | r => r) = _
  rw [e]
theorem hk1 : hasK [] (.inr "counts") = false := by decide +kernel
theorem hk2 : hasK [.inr "counts"] (.inr "evening") = false := by decide +kernel
theorem hk3 : hasK [.inr "counts", .inr "evening"] (.inr "lost") = false := by decide +kernel
theorem hk4 : hasK [.inr "counts", .inr "evening", .inr "lost"] (.inr "remembers") = false := by decide +kernel
theorem hk5 : hasK [.inr "counts", .inr "evening", .inr "lost", .inr "remembers"] (.inr "search") = false := by decide +kernel
theorem hk6 : hasK [.inr "counts", .inr "evening", .inr "lost", .inr "remembers", .inr "search"] (.inr "tells") = false := by decide +kernel
theorem hk7 : hasK K6 (.inr "tells") = true := by decide +kernel
theorem putT (r : Rl) (x : Str) : putKs K6 (.inr "tells") = K6 ∧ putXs K6 [.str r.c, .str r.e, .str r.l, .str r.m, .str r.s, .str r.t] (.inr "tells") (.str x) = [.str r.c, .str r.e, .str r.l, .str r.m, .str r.s, .str x] := by
  have n1 : ¬ ((.inr "counts" : Key) = .inr "tells") := by decide +kernel
  have n2 : ¬ ((.inr "evening" : Key) = .inr "tells") := by decide +kernel
  have n3 : ¬ ((.inr "lost" : Key) = .inr "tells") := by decide +kernel
  have n4 : ¬ ((.inr "remembers" : Key) = .inr "tells") := by decide +kernel
  have n5 : ¬ ((.inr "search" : Key) = .inr "tells") := by decide +kernel
  unfold putKs putXs
  rw [if_pos hk7, if_pos hk7]
  refine ⟨rfl, ?_⟩
  unfold K6
  simp only [List.zipWith, if_neg n1, if_neg n2, if_neg n3, if_neg n4, if_neg n5, if_true]
theorem rule_loop (a : Ad) (s : Src) (j : List Ob) (o : Option D) : ∃ r s' o', RlOk r ∧ forL (.nm 2) (bRule a) (PWs.map row) [some (.loc 1), some (.loc (2 + j.length)), o] (src s ++ (j ++ [.dct [] []])) = .nx [some (.loc 1), some (.loc (2 + j.length)), o']
    (src s' ++ (j ++ [.dct K6 [.str r.c, .str r.e, .str r.l, .str r.m, .str r.s, .str r.t]])) := by
  unfold PWs
  simp only [List.map_cons, List.map_nil]
  obtain ⟨w1, s1, m1, e1⟩ := rule_row a s j [] [] ("counts", ["comes", "fits"]) [row ("evening", ["looks", "sends"]), row ("lost", ["again", "noted"]), row ("remembers", ["number", "price", "thing"]), row ("search", ["forgets", "keeps"]), row ("tells", ["evening", "now"])] o (by decide) (by simp) (by simp)
  simp only [putKs, putXs, hk1, Bool.false_eq_true, if_false, List.nil_append, List.cons_append] at e1
  obtain ⟨w2, s2, m2, e2⟩ := rule_row a s1 j [.inr "counts"] [.str w1] ("evening", ["looks", "sends"]) [row ("lost", ["again", "noted"]), row ("remembers", ["number", "price", "thing"]), row ("search", ["forgets", "keeps"]), row ("tells", ["evening", "now"])] (some (row ("counts", ["comes", "fits"]))) (by simp) (by simp) (by simp)
  simp only [putKs, putXs, hk2, Bool.false_eq_true, if_false, List.nil_append, List.cons_append] at e2
  obtain ⟨w3, s3, m3, e3⟩ := rule_row a s2 j [.inr "counts", .inr "evening"] [.str w1, .str w2] ("lost", ["again", "noted"]) [row ("remembers", ["number", "price", "thing"]), row ("search", ["forgets", "keeps"]), row ("tells", ["evening", "now"])] (some (row ("evening", ["looks", "sends"]))) (by simp) (by simp) (by simp)
  simp only [putKs, putXs, hk3, Bool.false_eq_true, if_false, List.nil_append, List.cons_append] at e3
  obtain ⟨w4, s4, m4, e4⟩ := rule_row a s3 j [.inr "counts", .inr "evening", .inr "lost"] [.str w1, .str w2, .str w3] ("remembers", ["number", "price", "thing"]) [row ("search", ["forgets", "keeps"]), row ("tells", ["evening", "now"])] (some (row ("lost", ["again", "noted"]))) (by simp) (by simp) (by simp)
  simp only [putKs, putXs, hk4, Bool.false_eq_true, if_false, List.nil_append, List.cons_append] at e4
  obtain ⟨w5, s5, m5, e5⟩ := rule_row a s4 j [.inr "counts", .inr "evening", .inr "lost", .inr "remembers"] [.str w1, .str w2, .str w3, .str w4] ("search", ["forgets", "keeps"]) [row ("tells", ["evening", "now"])] (some (row ("remembers", ["number", "price", "thing"]))) (by simp) (by simp) (by simp)
  simp only [putKs, putXs, hk5, Bool.false_eq_true, if_false, List.nil_append, List.cons_append] at e5
  obtain ⟨w6, s6, m6, e6⟩ := rule_row a s5 j [.inr "counts", .inr "evening", .inr "lost", .inr "remembers", .inr "search"] [.str w1, .str w2, .str w3, .str w4, .str w5] ("tells", ["evening", "now"]) [] (some (row ("search", ["forgets", "keeps"]))) (by simp) (by simp) (by simp)
  simp only [putKs, putXs, hk6, Bool.false_eq_true, if_false, List.nil_append, List.cons_append] at e6
  refine ⟨⟨w1, w2, w3, w4, w5, w6⟩, s6, some (row ("tells", ["evening", "now"])), ⟨m1, m2, m3, m4, m5, m6⟩, ?_⟩
  rw [e1, e2, e3, e4, e5, e6]
  rfl
abbrev rl6 (r : Rl) : List D := [.str r.c, .str r.e, .str r.l, .str r.m, .str r.s, .str r.t]
theorem rule_ok (a : Ad) (s : Src) (j : List Ob) : ∃ r s', RlOk r ∧ ct__law_rule a [.loc 1] (src s ++ j) = .ok (.loc (2 + j.length)) (src s' ++ (j ++ [.dct K6 (rl6 r)])) := by
  obtain ⟨r, s1, o, hr, lp⟩ := rule_loop a s j none
  have hn := next_ok a s1 (j ++ [.dct K6 [.str r.c, .str r.e, .str r.l, .str r.m, .str r.s, .str r.t]]) 2 (by decide) (by decide)
  have pt := putT r "evening"
  have hk : K6.length = 6 := rfl
  by_cases h0 : (s1.next 2).1 = 0
  · have hb : ((s1.next 2).1 == 0) = true := by rw [h0]; rfl
    refine ⟨{ r with t := "evening" }, (s1.next 2).2, ⟨hr.c, hr.e, hr.l, hr.m, hr.s, by simp⟩, ?_⟩
    unfold ct__law_rule ctOf r_law_rule
    simp [-getElem?_pos, -List.getElem?_eq_getElem, List.getElem?_cons_zero, List.getElem?_cons_succ, hb, parts_ok, noX, itemsD, src_l, lp, hn, h0, eqD, D.okd, D.eqb, storeD, D.key, hk, pt, at_src, set_src, ruleD]
  · have hb : ((s1.next 2).1 == 0) = false := by simpa using h0
    refine ⟨r, (s1.next 2).2, hr, ?_⟩
    unfold ct__law_rule ctOf r_law_rule
    simp [-getElem?_pos, -List.getElem?_eq_getElem, List.getElem?_cons_zero, List.getElem?_cons_succ, hb, parts_ok, noX, itemsD, src_l, lp, hn, h0, eqD, D.okd, D.eqb, storeD, D.key, hk, pt, at_src, set_src, ruleD]
end
end LX

namespace LX
open PySem L2 DL
noncomputable section
def W6 : List Str := ["anew", "lose", "number", "pause", "price", "search"]
theorem okd_strs : ∀ (n : Nat) (ws : List Str), (∀ x ∈ ws, PyData.strOk x = true) → okdL n (ws.map D.str) = true
  | n, [], _ => by simp [okdL]
  | n, x :: ws, h => by
    rw [List.map_cons, okdL, Bool.and_eq_true]
    refine ⟨?_, okd_strs n ws fun y hy => h y (List.mem_cons_of_mem _ hy)⟩
    rw [D.okd]
    exact h x List.mem_cons_self
theorem w6_ok : ∀ x ∈ W6, PyData.strOk x = true := by decide +kernel
theorem any_str (ws : List Str) (w : Str) : ((ws.map D.str).any fun z => z.eqb (.str w)) = decide (w ∈ ws) := by
  induction ws with
  | nil => simp
  | cons x ws ih =>
    rw [List.map_cons, List.any_cons, ih, D.eqb, Bool.eq_iff_iff, Bool.or_eq_true, beq_iff_eq, decide_eq_true_iff, decide_eq_true_iff, List.mem_cons]
    exact ⟨fun h => h.elim (fun e => .inl e.symm) .inr, fun h => h.elim (fun e => .inl e.symm) .inr⟩
theorem in_strs {neg : Bool} {w : Str} {ws : List Str} {μ : List Ob} (h : PyData.strOk w = true) (hs : ∀ x ∈ ws, PyData.strOk x = true) : inD neg (.str w) (.lst (ws.map D.str)) μ = .ok (.bl (if neg then !decide (w ∈ ws) else decide (w ∈ ws))) μ := by
  rw [inD_lst, if_pos (by rw [D.okd, h, okd_strs 60 ws hs]; rfl), any_str]
theorem in_strsT {neg : Bool} {w : Str} {ws : List Str} {μ : List Ob} (h : PyData.strOk w = true) (hs : ∀ x ∈ ws, PyData.strOk x = true) : inD neg (.str w) (.tup (ws.map D.str)) μ = .ok (.bl (if neg then !decide (w ∈ ws) else decide (w ∈ ws))) μ := by
  rw [inD_tup, if_pos (by rw [D.okd, h, okd_strs 60 ws hs]; rfl), any_str]
/-- some of the words, in their order -/
def wordsL (p : Str → Bool) : List Str := W6.filter p
def wordsD (p : Str → Bool) : D := .tup ((wordsL p).map D.str)
theorem picks (s : Src) (ks : List Nat) : ∃ fs : List Str, (∀ w ∈ fs, w ∈ W6) ∧ (ks.foldl (fun (p : List D × Src) _ => (p.1 ++ [D.str (p.2.wd W6).1], (p.2.wd W6).2)) ([], s)).1 = fs.map D.str := by
  have key : ∀ (ks : List Nat) (s : Src) (l : List Str), (∀ w ∈ l, w ∈ W6) → ∃ fs : List Str, (∀ w ∈ fs, w ∈ W6) ∧ (ks.foldl (fun (p : List D × Src) _ => (p.1 ++ [D.str (p.2.wd W6).1], (p.2.wd W6).2)) (l.map D.str, s)).1 = fs.map D.str := by
    intro ks
    induction ks with
    | nil => intro s l hl; exact ⟨l, hl, rfl⟩
    | cons k ks ih =>
      intro s l hl
      have := ih (s.wd W6).2 (l ++ [(s.wd W6).1]) fun w hw => by
        rcases List.mem_append.mp hw with h | h
        · exact hl w h
        · rw [List.mem_singleton.mp h]; exact wd_mem s (by decide)
      rw [List.foldl_cons]
      simpa using this
  exact key ks s [] fun w hw => by cases hw
theorem words_ok (a : Ad) (s : Src) (j : List Ob) (many : Int) (m0 : 0 ≤ many) (m1 : many < 1000) : ∃ p s', ct__law_words a [.loc 1, .int many] (src s ++ j) = .ok (wordsD p) (src s' ++ j) := by
  have e1 := next_ok a s j (many + 1) (by omega) (by omega)
  obtain ⟨v0, v1⟩ := next_rng s (cap := many + 1) (by omega)
  obtain ⟨fs, hf, ef⟩ := picks (s.next (many + 1)).2 (List.range (s.next (many + 1)).1.toNat)
  have e2 := comp_s (t := .nm 4) (vs := [4]) (ft := rYes) (fe := rCall 2 (ct__law_pick a) (rCons (rVar 0) (rCons (rVar 2) rNil))) (δ := [some (.loc 1), some (.int many), some (.lst (W6.map D.str)), none, none, none]) (M := fun s => src s ++ j) (enc := fun k : Nat => D.int (k : Int)) (f := fun s _ => D.str (s.wd W6).1) (g := fun s _ => (s.wd W6).2) (fun _ _ => rfl) (List.range (s.next (many + 1)).1.toNat) (s.next (many + 1)).2 [] (by simp; omega) fun s x => by
    have := wd_ok a s j W6 (by decide) (by decide)
    refine ⟨_, rfl, ?_⟩
    simp [wipeD, this]
  rw [List.nil_append, ef] at e2
  generalize (List.range (s.next (many + 1)).1.toNat).foldl (fun (p : List D × Src) _ => (p.1 ++ [D.str (p.2.wd W6).1], (p.2.wd W6).2)) ([], (s.next (many + 1)).2) = z at e2
  have hfs : ∀ x ∈ fs, PyData.strOk x = true := fun x hx => w6_ok x (hf x hx)
  have e3 := comp_t (t := .nm 5) (vs := [5]) (ft := rT (rBin (inD false) (rVar 5) (rVar 3))) (fe := rVar 5) (δ := [some (.loc 1), some (.int many), some (.lst (W6.map D.str)), some (.lst (fs.map D.str)), none, none]) (μ := src z.2 ++ j) D.str (fun w => decide (w ∈ fs)) D.str W6 [] (by decide) (fun w hw => by
    refine ⟨_, rfl, ?_, fun _ => rfl⟩
    have := in_strs (neg := false) (μ := src z.2 ++ j) (w6_ok w hw) hfs
    rw [s_rT, s_rBin]
    show (DL.R.bind (DL.R.bind (DL.R.ok (D.str w) _) fun d μ1 => DL.R.bind (DL.R.ok (D.lst (fs.map D.str)) μ1) fun e μ2 => inD false d e μ2) fun d μ1 => match d with
      | .bl b => .ok b μ1
      | _ => .bad) = _
    simp only [R.ok_bind, this]
    rfl)
  rw [List.nil_append] at e3
  refine ⟨fun w => decide (w ∈ fs), z.2, ctT_rt (j := []) ?_ (old_src _ _ _) (by rw [wordsD, D.sc]; exact sc_strs _)⟩
  have v62 : (s.next (many + 1)).1 < 4611686018427387904 := by omega
  have v63 : -4611686018427387904 ≤ (s.next (many + 1)).1 := by omega
  unfold W6 at e2 e3
  simp only [List.map_cons, List.map_nil] at e2 e3
  unfold r_law_words
  rw [List.append_nil]
  simp [e1, v62, v63, e2, e3, itemsD, wordsD, wordsL, W6, upTo_z]
end
end LX

namespace LX
open PySem L2 DL
noncomputable section
theorem kb_int : kitB "int" "int" = some true := by decide +kernel
theorem kb_ib : kitB "int" "bool" = some false := by decide +kernel
theorem kb_str : kitB "str" "str" = some true := by decide +kernel
theorem kb_dct : kitB "dict" "dict" = some true := by decide +kernel
theorem kb_tup : kitB "tuple" "tuple" = some true := by decide +kernel
theorem eq_strs {x y : Str} {μ : List Ob} (h : PyData.strOk x = true) (h' : PyData.strOk y = true) : eqD (.str x) (.str y) μ = .ok (.bl (decide (x = y))) μ := by
  unfold eqD
  have e1 : (D.str x).okd 60 = true := by rw [D.okd]; exact h
  have e2 : (D.str y).okd 60 = true := by rw [D.okd]; exact h'
  simp only [vw_str, e1, e2, Bool.and_self, if_true]
  rw [D.eqb]
  congr 2
theorem ne_strs {x y : Str} {μ : List Ob} (h : PyData.strOk x = true) (h' : PyData.strOk y = true) : neD (.str x) (.str y) μ = .ok (.bl (!decide (x = y))) μ := by
  unfold neD
  have e1 : (D.str x).okd 60 = true := by rw [D.okd]; exact h
  have e2 : (D.str y).okd 60 = true := by rw [D.okd]; exact h'
  simp only [vw_str, e1, e2, Bool.and_self, if_true]
  rw [D.eqb]
  congr 2
theorem eqbL_strs : ∀ xs ys : List Str, eqbL (xs.map D.str) (ys.map D.str) = decide (xs = ys)
  | [], [] => by simp [eqbL]
  | [], y :: ys => by simp [eqbL]
  | x :: xs, [] => by simp [eqbL]
  | x :: xs, y :: ys => by
    rw [List.map_cons, List.map_cons, eqbL, eqbL_strs xs ys, D.eqb, Bool.eq_iff_iff]
    simp
def lst (ws : List Str) : D := .lst (ws.map D.str)
theorem eq_lsts {xs ys : List Str} {μ : List Ob} (h : ∀ x ∈ xs, PyData.strOk x = true) (h' : ∀ x ∈ ys, PyData.strOk x = true) : eqD (.lst (xs.map D.str)) (.lst (ys.map D.str)) μ = .ok (.bl (decide (xs = ys))) μ := by
  unfold eqD
  have e1 : (D.lst (xs.map D.str)).okd 60 = true := by rw [D.okd]; exact okd_strs 59 xs h
  have e2 : (D.lst (ys.map D.str)).okd 60 = true := by rw [D.okd]; exact okd_strs 59 ys h'
  simp only [vw_lst, e1, e2, Bool.and_self, if_true]
  rw [D.eqb, eqbL_strs]
theorem ne_lsts {xs ys : List Str} {μ : List Ob} (h : ∀ x ∈ xs, PyData.strOk x = true) (h' : ∀ x ∈ ys, PyData.strOk x = true) : neD (.lst (xs.map D.str)) (.lst (ys.map D.str)) μ = .ok (.bl (!decide (xs = ys))) μ := by
  unfold neD
  have e1 : (D.lst (xs.map D.str)).okd 60 = true := by rw [D.okd]; exact okd_strs 59 xs h
  have e2 : (D.lst (ys.map D.str)).okd 60 = true := by rw [D.okd]; exact okd_strs 59 ys h'
  simp only [vw_lst, e1, e2, Bool.and_self, if_true]
  rw [D.eqb, eqbL_strs]
theorem eq_ints {i j : Int} {μ : List Ob} : eqD (.int i) (.int j) μ = .ok (.bl (decide (i = j))) μ := by
  unfold eqD
  simp only [vw_int, D.okd, Bool.and_self, if_true, D.eqb]
  congr 2
theorem ne_ints {i j : Int} {μ : List Ob} : neD (.int i) (.int j) μ = .ok (.bl (!decide (i = j))) μ := by
  unfold neD
  simp only [vw_int, D.okd, Bool.and_self, if_true, D.eqb]
  congr 2
theorem filt_words {t : Tg} {vs : List Nat} {ft : RT} {fe : RE} {δ : Sl} {μ : List Ob} (r : List Str) (h : ∀ w ∈ W6, ∃ δ1, t.set (.str w) (wipeD δ vs) = some δ1 ∧ ft δ1 μ = .ok (decide (w ∈ r)) μ ∧ fe δ1 μ = .ok (.str w) μ) : compL t vs ft fe (W6.map D.str) δ μ [] = .ok ((W6.filter fun w => decide (w ∈ r)).map D.str) μ := by
  have := comp_t (t := t) (vs := vs) (ft := ft) (fe := fe) (δ := δ) (μ := μ) D.str (fun w => decide (w ∈ r)) D.str W6 [] (by decide) fun w hw => let ⟨δ1, h1, h2, h3⟩ := h w hw; ⟨δ1, h1, h2, fun _ => h3⟩
  rw [List.nil_append] at this
  exact this
theorem fw_ok (q : Str → Bool) : ∀ x ∈ W6.filter q, PyData.strOk x = true := fun x hx => w6_ok x (List.mem_filter.mp hx).1
end
end LX

namespace LX
open PySem L2 DL
noncomputable section
theorem kn01 : ¬ ((.inr "counts" : Key) = .inr "evening") := by decide +kernel
theorem kn02 : ¬ ((.inr "counts" : Key) = .inr "lost") := by decide +kernel
theorem kn03 : ¬ ((.inr "counts" : Key) = .inr "remembers") := by decide +kernel
theorem kn04 : ¬ ((.inr "counts" : Key) = .inr "search") := by decide +kernel
theorem kn05 : ¬ ((.inr "counts" : Key) = .inr "tells") := by decide +kernel
theorem kn12 : ¬ ((.inr "evening" : Key) = .inr "lost") := by decide +kernel
theorem kn13 : ¬ ((.inr "evening" : Key) = .inr "remembers") := by decide +kernel
theorem kn14 : ¬ ((.inr "evening" : Key) = .inr "search") := by decide +kernel
theorem kn15 : ¬ ((.inr "evening" : Key) = .inr "tells") := by decide +kernel
theorem kn23 : ¬ ((.inr "lost" : Key) = .inr "remembers") := by decide +kernel
theorem kn24 : ¬ ((.inr "lost" : Key) = .inr "search") := by decide +kernel
theorem kn25 : ¬ ((.inr "lost" : Key) = .inr "tells") := by decide +kernel
theorem kn34 : ¬ ((.inr "remembers" : Key) = .inr "search") := by decide +kernel
theorem kn35 : ¬ ((.inr "remembers" : Key) = .inr "tells") := by decide +kernel
theorem kn45 : ¬ ((.inr "search" : Key) = .inr "tells") := by decide +kernel
section
variable (x0 x1 x2 x3 x4 x5 : D)
theorem lk0 : lookD K6 [x0, x1, x2, x3, x4, x5] (.inr "counts") = some x0 := by unfold K6; rw [lookD, if_pos rfl]
theorem lk1 : lookD K6 [x0, x1, x2, x3, x4, x5] (.inr "evening") = some x1 := by unfold K6; rw [lookD, if_neg kn01, lookD, if_pos rfl]
theorem lk2 : lookD K6 [x0, x1, x2, x3, x4, x5] (.inr "lost") = some x2 := by unfold K6; rw [lookD, if_neg kn02, lookD, if_neg kn12, lookD, if_pos rfl]
theorem lk3 : lookD K6 [x0, x1, x2, x3, x4, x5] (.inr "remembers") = some x3 := by unfold K6; rw [lookD, if_neg kn03, lookD, if_neg kn13, lookD, if_neg kn23, lookD, if_pos rfl]
theorem lk4 : lookD K6 [x0, x1, x2, x3, x4, x5] (.inr "search") = some x4 := by unfold K6; rw [lookD, if_neg kn04, lookD, if_neg kn14, lookD, if_neg kn24, lookD, if_neg kn34, lookD, if_pos rfl]
theorem lk5 : lookD K6 [x0, x1, x2, x3, x4, x5] (.inr "tells") = some x5 := by unfold K6; rw [lookD, if_neg kn05, lookD, if_neg kn15, lookD, if_neg kn25, lookD, if_neg kn35, lookD, if_neg kn45, lookD, if_pos rfl]
end
theorem is_int (a : Ad) (i lo hi : Int) (μ : List Ob) : ct_is_integer a [.int i, .int lo, .int hi] μ = .ok (.bl (decide (lo ≤ i) && decide (i ≤ hi))) μ := by
  refine pu_rt ⟨[], ?_⟩ (by simp [D.sc])
  unfold r_is_integer
  by_cases h : lo ≤ i
  · simp [isiD, isT, D.tyS, kb_int, kb_ib, h]
  · simp [isiD, isT, D.tyS, kb_int, kb_ib, h]
theorem is_word_l (a : Ad) {w : Str} {ws : List Str} (μ : List Ob) (h : PyData.strOk w = true) (ho : ∀ x ∈ ws, PyData.strOk x = true) : ct_is_word a [.str w, .lst (ws.map D.str)] μ = .ok (.bl (decide (w ∈ ws))) μ := by
  refine pu_rt ⟨[], ?_⟩ (by simp [D.sc])
  have e := in_strs (neg := false) (μ := μ) h ho
  unfold r_is_word
  simp [-inD_lst, isiD, isT, D.tyS, kb_str, e]
theorem is_word_t (a : Ad) {w : Str} {ws : List Str} (μ : List Ob) (h : PyData.strOk w = true) (ho : ∀ x ∈ ws, PyData.strOk x = true) : ct_is_word a [.str w, .tup (ws.map D.str)] μ = .ok (.bl (decide (w ∈ ws))) μ := by
  refine pu_rt ⟨[], ?_⟩ (by simp [D.sc])
  have e := in_strsT (neg := false) (μ := μ) h ho
  unfold r_is_word
  simp [-inD_tup, isiD, isT, D.tyS, kb_str, e]
def KW : List Str := ["counts", "evening", "lost", "remembers", "search", "tells"]
theorem kw_ok : ∀ x ∈ KW, PyData.strOk x = true := by decide +kernel
theorem pw_ok : ∀ p ∈ PWs, PyData.strOk p.1 = true ∧ ∀ x ∈ p.2, PyData.strOk x = true := by decide +kernel
theorem bls_true {ι : Type} : ∀ xs : List ι, blsD (xs.map fun _ => D.bl true) = some (xs.map fun _ => true)
  | [] => rfl
  | x :: xs => by
    rw [List.map_cons, blsD, bls_true xs]
    rfl
theorem all_true {ι : Type} {xs : List ι} {μ : List Ob} : allD false [.lst (xs.map fun _ => D.bl true)] μ = .ok (.bl true) μ := by
  unfold allD
  simp [bls_true]
theorem onP_P (a : Ad) (g : List Ob → R D) (μ : List Ob) : onP a.cPARTS g [d_PARTS a] μ = g μ := if_pos rfl
theorem hp6 (a : Ad) : pairsP ((kv_PARTS a).map (·.1)) xs_PARTS = PWs.map fun p => .tup [.str p.1, .tup (p.2.map D.str)] := rfl
theorem k6_d : K6.map Key.d = KW.map D.str := rfl
theorem kv_keys (a : Ad) : ((kv_PARTS a).map (·.1)).map Key.d = KW.map D.str := rfl
theorem kv_keys' (a : Ad) : (kv_PARTS a).map (Key.d ∘ fun x => x.fst) = KW.map D.str := rfl
theorem kv_len (a : Ad) : (kv_PARTS a).length = 6 := rfl
theorem RlOk.at {r : Rl} (h : RlOk r) : ∀ p ∈ PWs, ∃ w, lookD K6 [.str r.c, .str r.e, .str r.l, .str r.m, .str r.s, .str r.t] (.inr p.1) = some (.str w) ∧ w ∈ p.2 := fun p hp => by
  unfold PWs at hp
  simp only [List.mem_cons, List.not_mem_nil, or_false] at hp
  rcases hp with rfl | rfl | rfl | rfl | rfl | rfl
  · exact ⟨_, lk0 .., h.c⟩
  · exact ⟨_, lk1 .., h.e⟩
  · exact ⟨_, lk2 .., h.l⟩
  · exact ⟨_, lk3 .., h.m⟩
  · exact ⟨_, lk4 .., h.s⟩
  · exact ⟨_, lk5 .., h.t⟩
theorem check_ok (a : Ad) {r : Rl} (μ : List Ob) (Q : RlOk r) : ct_check_rule a [ruleD r] μ = .ok .non μ := by
  have e1 := comp_t (t := .nm 1) (vs := [1]) (ft := rYes) (fe := rCall 2 (ct_is_word a) (rCons (rVar 1) (rCons (rCB (onP a.cPARTS fun μ => .ok (.lst (((kv_PARTS a).map (·.1)).map Key.d)) μ) (rCons (rC (d_PARTS a)) rNil)) rNil))) (δ := [some (ruleD r), none, none]) (μ := μ) D.str (fun _ => true) (fun _ => .bl true) KW [] (by decide) fun w hw => by
    refine ⟨_, rfl, rfl, fun _ => ?_⟩
    have := is_word_l a (w := w) (ws := KW) μ (kw_ok w hw) kw_ok
    simp [wipeD, onP_P, kv_keys', this, hw]
  have e2 : itemsD (ruleD r) = some (KW.map D.str) := rfl
  rw [List.nil_append, List.filter_eq_self.mpr (fun _ _ => rfl)] at e1
  have hP : rP a.cPARTS (pairsP ((kv_PARTS a).map (·.1)) xs_PARTS) (rC (d_PARTS a)) [some (ruleD r), none, none] μ = .ok (pairsP ((kv_PARTS a).map (·.1)) xs_PARTS) μ := if_pos rfl
  have f := fun g0 : RS => (for_t (t := .tp [1, 2]) (body := rIfS (rNotT (rT (rCall 2 (ct_is_word a) (rCons (rBin getD (rVar 0) (rVar 1)) (rCons (rVar 2) rNil))))) g0 (fun δ μ => .nx δ μ)) (S := fun s : Option D × Option D => [some (ruleD r), s.1, s.2]) (M := fun _ => μ)
    (enc := fun p : Str × List Str => .tup [.str p.1, .tup (p.2.map D.str)]) (step := fun _ p => (some (.str p.1), some (.tup (p.2.map D.str)))) (fun _ => True) PWs (none, none) trivial fun s p hp _ => by
      obtain ⟨w, h1, h2⟩ := Q.at p hp
      have h3 := is_word_t a (w := w) (ws := p.2) μ ((pw_ok p hp).2 w h2) (pw_ok p hp).2
      refine ⟨trivial, _, rfl, ?_⟩
      have h4 : getV (ruleD r) (.str p.1) μ = .ok (.str w) μ := by unfold ruleD; rw [getV_str, h1]; rfl
      have h5 : (ruleD r).view μ = ruleD r := rfl
      simp [setsD, h4, h5, h3, h2]).2
  have h5 : (ruleD r).view μ = ruleD r := rfl
  have c1 : rNotT (rT (rCB (isiD (.ty "dict") (isT "dict")) (rCons (rVar 0) (rCons (rC (.vv (.ty "dict"))) rNil)))) [some (ruleD r), none, none] μ = .ok false μ := by
    simp [isiD, isT, kb_dct, D.tyS, ruleD]
  simp only [← hp6 a] at f
  generalize PWs.foldl (fun (_ : Option D × Option D) (p : Str × List Str) => ((some (.str p.1) : Option D), (some (.tup (p.2.map D.str)) : Option D))) (none, none) = z at f
  refine pu_nx ⟨[some (ruleD r), z.1, z.2], [], ?_⟩
  have c2 : rT (rBin neD (rCB lenD (rCons (rVar 0) rNil)) (rCB (onP a.cPARTS fun μ => .ok (.int ((kv_PARTS a).length : Nat)) μ) (rCons (rC (d_PARTS a)) rNil))) [some (ruleD r), none, none] μ = .ok false μ := by
    have : lenV (ruleD r) μ = .ok (.int 6) μ := rfl
    simp [h5, this, onP_P, kv_len, ne_ints]
  have c3 : rNotT (rT (rCB (allD false) (rCons (rLc (rItems (rVar 0)) (.nm 1) (([("part", 1)] : List (Str × Nat)).map (·.2)) rYes (rCall 2 (ct_is_word a) (rCons (rVar 1) (rCons (rCB (onP a.cPARTS fun μ => .ok (.lst (((kv_PARTS a).map (·.1)).map Key.d)) μ) (rCons (rC (d_PARTS a)) rNil)) rNil)))) rNil))) [some (ruleD r), none, none] μ = .ok false μ := by
    rw [s_rNotT, s_rT, s_rCB, s_rCons, s_rLc]
    have : rItems (rVar 0) [some (ruleD r), none, none] μ = .ok (KW.map D.str) μ := rfl
    rw [this]
    simp only [R.ok_bind, List.map_cons, List.map_nil]
    rw [e1]
    simp only [R.ok_bind, s_rNil, all_true]
    rfl
  simp only [List.map_cons, List.map_nil] at c3
  unfold r_check_rule
  simp only [List.map_cons, List.map_nil, List.replicate, List.append_nil, List.cons_append, List.nil_append, s_rSeq, s_rIfS, s_rOrT, c1, c2, c3, R.ok_bind, R.ok_st, s_rFor, hP, f]
end
end LX

namespace LX
open PySem L2 DL
noncomputable section
abbrev F3 : List Str := ["highest", "terms", "kinds"]
def bookD (a : Ad) (p : Int) (r w : D) : D := .ins a.kBook F3 [.int p, r, w]
theorem st_fld {C : Addr} {f : Str} {k : Nat} {d : D} {μ : List Ob} {fs : List Str} {xs : List D} (e : μ[k]? = some (.ins C fs xs)) (hl : fs.length < 1000) (nd : fs.Nodup) : stFld C f (.loc k) d μ = .ok () (μ.set k (.ins C (putFs fs f) (putFx fs xs f d))) := by
  unfold stFld
  simp only [e, if_true]
  rw [if_pos hl, if_pos nd]
theorem pf1 : putFs [] "highest" = (["highest"] : List Str) := rfl
theorem pf2 : putFs ["highest"] "terms" = (["highest", "terms"] : List Str) := by decide +kernel
theorem pf3 : putFs ["highest", "terms"] "kinds" = F3 := by decide +kernel
theorem pn1 : (["highest"] : List Str).Nodup := by decide +kernel
theorem pn2 : (["highest", "terms"] : List Str).Nodup := by decide +kernel
theorem pg2 : ((["highest"] : List Str).any fun g => decide (g = "terms")) = false := by decide +kernel
theorem pg3 : ((["highest", "terms"] : List Str).any fun g => decide (g = "kinds")) = false := by decide +kernel
theorem px1 (d : D) : putFx [] [] "highest" d = [d] := rfl
theorem px2 (x d : D) : putFx ["highest"] [x] "terms" d = [x, d] := by
  unfold putFx
  rw [pg2]
  rfl
theorem px3 (x y d : D) : putFx ["highest", "terms"] [x, y] "kinds" d = [x, y, d] := by
  unfold putFx
  rw [pg3]
  rfl
theorem filt_self {ws : List Str} {q : Str → Bool} (h : ws = W6.filter q) : (W6.filter fun w => decide (w ∈ ws)) = ws := by
  subst h
  refine List.filter_congr fun w hw => ?_
  rw [Bool.eq_iff_iff, decide_eq_true_iff, List.mem_filter]
  exact ⟨fun h => h.2, fun h => ⟨hw, h⟩⟩
theorem dict_ok (a : Ad) {r : Rl} {δ : Sl} {μ : List Ob} (h : δ = [δ[0]!, δ[1]!, some (ruleD r), δ[3]!, δ[4]!, δ[5]!]) : rDc (rP a.cPARTS (((kv_PARTS a).map (·.1)).map Key.d) (rC (d_PARTS a))) (.nm 4) [4] rYes (rVar 4) (rBin getD (rVar 2) (rVar 4)) δ μ = .ok (ruleD r) μ := by
  have h1 : rP a.cPARTS (((kv_PARTS a).map (·.1)).map Key.d) (rC (d_PARTS a)) δ μ = .ok [.str "counts", .str "evening", .str "lost", .str "remembers", .str "search", .str "tells"] μ := if_pos rfl
  rw [s_rDc, h1]
  generalize δ[0]! = b0 at h
  generalize δ[1]! = b1 at h
  generalize δ[3]! = b3 at h
  generalize δ[4]! = b4 at h
  generalize δ[5]! = b5 at h
  subst h
  simp [dcL, wipeD, Tg.set, ruleD, D.key, lk0, lk1, lk2, lk3, lk4, lk5, putKs, putXs, hk1, hk2, hk3, hk4, hk5, hk6]
  rfl
theorem init_ok (a : Ad) {r : Rl} {p : Int} {q : Str → Bool} {μ : List Ob} (Q : RlOk r) (hp : 2 ≤ p ∧ p ≤ 3) :
    cm_Book a [.loc μ.length, .int p, ruleD r, wordsD q] (μ ++ [.ins a.kBook [] []]) = .ok .non (μ ++ [.ins a.kBook F3 [.int p, ruleD r, wordsD q]]) := by
  have i1 := is_int a p 2 3 (μ ++ [.ins a.kBook [] []])
  have i2 := check_ok a (μ ++ [.ins a.kBook [] []]) Q
  have hWd : d_WORDS a = .tup (W6.map D.str) := rfl
  have c1 := comp_t (t := .nm 5) (vs := [5]) (ft := rYes) (fe := rCall 2 (ct_is_word a) (rCons (rVar 5) (rCons (rC (d_WORDS a)) rNil))) (δ := [some (.loc μ.length), some (.int p), some (ruleD r), some (wordsD q), none, none]) (μ := μ ++ [.ins a.kBook [] []]) D.str (fun _ => true) (fun _ => .bl true) (wordsL q) [] (by
      have := List.length_filter_le q W6
      have h6 : W6.length = 6 := rfl
      simp only [List.length_nil, wordsL]
      omega) fun w hw => by
    refine ⟨_, rfl, rfl, fun _ => ?_⟩
    have hm := (List.mem_filter.mp hw).1
    have := is_word_t a (w := w) (ws := W6) (μ ++ [.ins a.kBook [] []]) (w6_ok w hm) w6_ok
    simp [wipeD, hWd, this, hm]
  rw [List.nil_append, List.filter_eq_self.mpr (fun _ _ => rfl), hWd] at c1
  have c2 := filt_words (t := .nm 5) (vs := [5]) (ft := rT (rBin (inD false) (rVar 5) (rVar 3))) (fe := rVar 5) (δ := [some (.loc μ.length), some (.int p), some (ruleD r), some (wordsD q), none, none]) (μ := μ ++ [.ins a.kBook [] []]) (wordsL q) fun w hw => by
    refine ⟨_, rfl, ?_, rfl⟩
    have := in_strsT (neg := false) (ws := wordsL q) (μ := μ ++ [.ins a.kBook [] []]) (w6_ok w hw) (fw_ok q)
    simp [-inD_tup, wipeD, wordsD, this]
  rw [filt_self (ws := wordsL q) (q := q) rfl] at c2
  have n2 := ne_lsts (μ := μ ++ [.ins a.kBook [] []]) (xs := wordsL q) (ys := wordsL q) (fw_ok q) (fw_ok q)
  have iw : itemsD (wordsD q) = some ((wordsL q).map D.str) := rfl
  have iW : itemsD (.tup (W6.map D.str)) = some (W6.map D.str) := rfl
  have e1 : (μ ++ [Ob.ins a.kBook [] []])[μ.length]? = some (.ins a.kBook [] []) := by simp
  have s1 := st_fld (f := "highest") (d := .int p) e1 (by decide) List.nodup_nil
  have st : ∀ x y : Ob, (μ ++ [x]).set μ.length y = μ ++ [y] := fun x y => by simp
  rw [pf1, px1, st] at s1
  have e2 : (μ ++ [Ob.ins a.kBook ["highest"] [.int p]])[μ.length]? = some (.ins a.kBook ["highest"] [.int p]) := by simp
  have s2 := st_fld (f := "terms") (d := ruleD r) e2 (by decide) pn1
  rw [pf2, px2, st] at s2
  have e3 : (μ ++ [Ob.ins a.kBook ["highest", "terms"] [.int p, ruleD r]])[μ.length]? = some (.ins a.kBook ["highest", "terms"] [.int p, ruleD r]) := by simp
  have s3 := st_fld (f := "kinds") (d := wordsD q) e3 (by decide) pn2
  rw [pf3, px3, st] at s3
  have vw : ∀ μ', (wordsD q).view μ' = .tup ((wordsL q).map D.str) := fun _ => rfl
  have hD := dict_ok a (r := r) (δ := [some (.loc μ.length), some (.int p), some (ruleD r), some (wordsD q), none, none]) (μ := μ ++ [.ins a.kBook ["highest"] [.int p]]) rfl
  refine ctT_nx (δ := [some (.loc μ.length), some (.int p), some (ruleD r), some (wordsD q), none, none]) (j := []) ?_ ⟨by simp, fun k o hk e => ?_⟩
  · rw [List.append_nil]
    unfold r_Book_init
    simp only [List.map_cons, List.map_nil] at hD ⊢
    simp [-getElem?_pos, -List.getElem?_eq_getElem, List.getElem?_cons_zero, List.getElem?_cons_succ, i1, hp.1, hp.2, i2, isiD, isT, D.tyS, kb_tup, vw, iw, c1, all_true, hWd, iW, c2, n2, s1, s2, s3, -s_rDc, hD, -List.map_const', -List.map_map]
  · by_cases h : k < μ.length
    · rw [List.getElem?_append_left h] at e ⊢
      exact .inl e
    · have : k = μ.length := by simp at hk; omega
      subst this
      simp at e
      subst e
      right
      simp [Ob.sc, scL, D.sc, ruleD, wordsD, sc_strs]
theorem make_ok (a : Ad) {r : Rl} {p : Int} {q : Str → Bool} {μ μ1 : List Ob} {δ : Sl} {fs : RA} (Q : RlOk r) (hp : 2 ≤ p ∧ p ≤ 3) (e : fs δ μ = .ok [.int p, ruleD r, wordsD q] μ1) :
    rMakeX a.kBook 3 (cm_Book a) fs δ μ = .ok (bookD a p (ruleD r) (wordsD q)) (μ1 ++ [.dead]) := by
  have i := init_ok a (q := q) (μ := μ1) Q hp
  have h1 : ∀ x y : Ob, (μ1 ++ [x]).set μ1.length y = μ1 ++ [y] := fun x y => by simp
  have h2 : (μ1 ++ [Ob.ins a.kBook F3 [.int p, ruleD r, wordsD q]])[μ1.length]? = some (.ins a.kBook F3 [.int p, ruleD r, wordsD q]) := by simp
  unfold rMakeX
  rw [e]
  simp only [R.ok_bind, List.length_cons, List.length_nil]
  simp only [if_true]
  rw [i]
  simp only [h2]
  rw [h1]
  rfl
end
end LX

namespace LX
open PySem L2 DL
noncomputable section
/-- a value that stands where a word should -/
inductive VOk : D → Prop
  | str (w : Str) (h : PyData.strOk w = true) : VOk (.str w)
  | non : VOk .non
  | bl (b : Bool) : VOk (.bl b)
  | int (i : Int) : VOk (.int i)
  | lst (w : Str) (h : PyData.strOk w = true) : VOk (.lst [.str w])
def good (ws : List Str) : D → Bool
  | .str w => decide (w ∈ ws)
  | _ => false
def isS : D → Bool
  | .str _ => true
  | _ => false
theorem kb_sn : kitB "NoneType" "str" = some false := by decide +kernel
theorem kb_sb : kitB "bool" "str" = some false := by decide +kernel
theorem kb_si : kitB "int" "str" = some false := by decide +kernel
theorem kb_sl : kitB "list" "str" = some false := by decide +kernel
theorem kb_sd : kitB "dict" "str" = some false := by decide +kernel
theorem kb_sT : kitB "tuple" "str" = some false := by decide +kernel
theorem isi_str {d : D} {μ : List Ob} (h : VOk d) : isiD (.ty "str") (isT "str") [d, .vv (.ty "str")] μ = .ok (.bl (isS d)) μ := by
  cases h <;> simp [isiD, isT, D.tyS, kb_str, kb_sn, kb_sb, kb_si, kb_sl, isS]
theorem is_word_gl (a : Ad) {d : D} {ws : List Str} (μ : List Ob) (h : VOk d) (ho : ∀ x ∈ ws, PyData.strOk x = true) : ct_is_word a [d, .lst (ws.map D.str)] μ = .ok (.bl (good ws d)) μ := by
  cases h with
  | str w h => exact is_word_l a μ h ho
  | _ =>
    refine pu_rt ⟨[], ?_⟩ (by simp [D.sc])
    unfold r_is_word
    simp [isiD, isT, D.tyS, kb_sn, kb_sb, kb_si, kb_sl, good]
theorem is_word_gt (a : Ad) {d : D} {ws : List Str} (μ : List Ob) (h : VOk d) (ho : ∀ x ∈ ws, PyData.strOk x = true) : ct_is_word a [d, .tup (ws.map D.str)] μ = .ok (.bl (good ws d)) μ := by
  cases h with
  | str w h => exact is_word_t a μ h ho
  | _ =>
    refine pu_rt ⟨[], ?_⟩ (by simp [D.sc])
    unfold r_is_word
    simp [isiD, isT, D.tyS, kb_sn, kb_sb, kb_si, kb_sl, good]
/-- prices -/
inductive PV : D → Bool → Prop
  | two : PV (.int 2) true
  | three : PV (.int 3) true
  | int (i : Int) (h : i < 2 ∨ 3 < i) : PV (.int i) false
  | non : PV .non false
  | tru : PV (.bl true) false
  | str : PV (.str "2") false
  | tup : PV (.tup [.int 2]) false
  | lst : PV (.lst [.int 3]) false
theorem kb_in : kitB "NoneType" "int" = some false := by decide +kernel
theorem kb_is : kitB "str" "int" = some false := by decide +kernel
theorem kb_iT : kitB "tuple" "int" = some false := by decide +kernel
theorem kb_il : kitB "list" "int" = some false := by decide +kernel
theorem kb_bi : kitB "bool" "int" = some true := by decide +kernel
theorem kb_bb : kitB "bool" "bool" = some true := by decide +kernel
theorem kb_nb : kitB "NoneType" "bool" = some false := by decide +kernel
theorem kb_strb : kitB "str" "bool" = some false := by decide +kernel
theorem kb_Tb : kitB "tuple" "bool" = some false := by decide +kernel
theorem kb_lb : kitB "list" "bool" = some false := by decide +kernel
theorem is_price (a : Ad) {d : D} {b : Bool} (μ : List Ob) (h : PV d b) : ct_is_integer a [d, .int 2, .int 3] μ = .ok (.bl b) μ := by
  cases h with
  | two => exact is_int a 2 2 3 μ
  | three => exact is_int a 3 2 3 μ
  | int i h =>
    have e := is_int a i 2 3 μ
    have : (decide ((2 : Int) ≤ i) && decide (i ≤ 3)) = false := by
      rw [Bool.and_eq_false_iff, decide_eq_false_iff_not, decide_eq_false_iff_not]
      omega
    rw [this] at e
    exact e
  | _ =>
    refine pu_rt ⟨[], ?_⟩ (by simp [D.sc])
    unfold r_is_integer
    simp [isiD, isT, D.tyS, kb_in, kb_is, kb_iT, kb_il, kb_bi, kb_bb]
/-- the rule of one value for each part -/
def ruleV (v : Str → D) : D := .dct K6 (KW.map v)
def fit (v : Str → D) (p : Str × List Str) : Bool := good p.2 (v p.1)
def bad1 (v : Str → D) : List (Str × List Str) → Option Str
  | [] => none
  | p :: ps => if fit v p = true then bad1 v ps else some p.1
theorem lkV (v : Str → D) {p : Str} (h : p ∈ KW) : lookD K6 (KW.map v) (.inr p) = some (v p) := by
  unfold KW at h ⊢
  simp only [List.mem_cons, List.not_mem_nil, or_false, List.map_cons, List.map_nil] at h ⊢
  rcases h with rfl | rfl | rfl | rfl | rfl | rfl
  · exact lk0 ..
  · exact lk1 ..
  · exact lk2 ..
  · exact lk3 ..
  · exact lk4 ..
  · exact lk5 ..
theorem pw_kw : ∀ p ∈ PWs, p.1 ∈ KW := by decide +kernel
theorem getV_rule (v : Str → D) {p : Str} (h : p ∈ KW) {μ : List Ob} : getV (ruleV v) (.str p) μ = .ok (v p) μ := by
  unfold ruleV
  rw [getV_str, lkV v h]
  rfl
def xr (a : Ad) (p : Str) : Exn := ⟨.ref a.kInvalidRule, ["part"], [.str p]⟩
abbrev bChk (a : Ad) : RS := rIfS (rNotT (rT (rCall 2 (ct_is_word a) (rCons (rBin getD (rVar 0) (rVar 1)) (rCons (rVar 2) rNil))))) (rRaise a.kInvalidRule ["part"] (rCons (rVar 1) rNil)) (fun δ μ => .nx δ μ)
theorem chk_turn (a : Ad) (v : Str → D) (p : Str × List Str) (μ : List Ob) (hp : p ∈ PWs) (hv : VOk (v p.1)) :
    bChk a [some (ruleV v), some (.str p.1), some (.tup (p.2.map D.str))] μ = if fit v p = true then .nx [some (ruleV v), some (.str p.1), some (.tup (p.2.map D.str))] μ else .exc (xr a p.1) [some (ruleV v), some (.str p.1), some (.tup (p.2.map D.str))] μ := by
  have h3 := is_word_gt a (ws := p.2) μ hv (pw_ok p hp).2
  have h4 := getV_rule v (pw_kw p hp) (μ := μ)
  have h5 : (ruleV v).view μ = ruleV v := rfl
  unfold fit
  by_cases hg : good p.2 (v p.1) = true
  · rw [if_pos hg]
    simp [h4, h5, h3, hg]
  · rw [if_neg hg]
    have hg' : good p.2 (v p.1) = false := by simpa using hg
    simp [h4, h5, h3, hg', rRaise, xr]
theorem chk_loop (a : Ad) (v : Str → D) (μ : List Ob) : ∀ (ps : List (Str × List Str)) (o1 o2 : Option D), (∀ p ∈ ps, p ∈ PWs ∧ VOk (v p.1)) →
    ∃ δ, forL (.tp [1, 2]) (bChk a) (ps.map fun p => .tup [.str p.1, .tup (p.2.map D.str)]) [some (ruleV v), o1, o2] μ = match bad1 v ps with
      | none => .nx δ μ
      | some p => .exc (xr a p) δ μ
  | [], o1, o2, _ => ⟨_, rfl⟩
  | p :: ps, o1, o2, h => by
    have t := chk_turn a v p μ (h p List.mem_cons_self).1 (h p List.mem_cons_self).2
    rw [List.map_cons, forL]
    show ∃ δ, (match bChk a [some (ruleV v), some (.str p.1), some (.tup (p.2.map D.str))] μ with
      | .nx δ2 μ2 => forL (.tp [1, 2]) (bChk a) (ps.map fun p : Str × List Str => D.tup [.str p.1, .tup (p.2.map D.str)]) δ2 μ2
      | .ct δ2 μ2 => forL (.tp [1, 2]) (bChk a) (ps.map fun p : Str × List Str => D.tup [.str p.1, .tup (p.2.map D.str)]) δ2 μ2
      | .bk δ2 μ2 => .nx δ2 μ2
      | r => r) = _
    rw [t, bad1]
    by_cases hf : fit v p = true
    · rw [if_pos hf, if_pos hf]
      exact chk_loop a v μ ps _ _ fun q hq => h q (List.mem_cons_of_mem _ hq)
    · rw [if_neg hf, if_neg hf]
      exact ⟨_, rfl⟩
end
end LX

namespace LX
open PySem L2 DL
noncomputable section
/-- what is given as a rule, and the part at fault -/
inductive RF : D → Option Str → Prop
  | odd (d : D) (h : d ∈ [D.non, .lst [], .str "rule", .int 5]) : RF d (some "")
  | few (ks : List Str) (xs : List D) (h : ∀ k ∈ ks, k ∈ KW) (hl : ks.length ≤ 2) (he : xs.length = ks.length) (hx : scL 0 xs = true) : RF (.dct (ks.map Sum.inr) xs) (some "")
  | full (v : Str → D) (h : ∀ p ∈ KW, VOk (v p)) : RF (ruleV v) (bad1 v PWs)
theorem VOk.sc {d : D} (h : VOk d) (n : Nat) : d.sc n = true := by cases h <;> simp [D.sc, scL]
theorem sc_map {n : Nat} {ι : Type} {f : ι → D} : ∀ xs : List ι, (∀ x ∈ xs, (f x).sc n = true) → scL n (xs.map f) = true
  | [], _ => by simp [scL]
  | x :: xs, h => by rw [List.map_cons, scL, h x List.mem_cons_self, sc_map xs fun y hy => h y (List.mem_cons_of_mem _ hy)]; rfl
theorem sc_ruleV {v : Str → D} (h : ∀ p ∈ KW, VOk (v p)) (n : Nat) : (ruleV v).sc n = true := by
  unfold ruleV
  rw [D.sc]
  exact sc_map _ fun p hp => (h p hp).sc n
abbrev cc1 (a : Ad) : RT := rNotT (rT (rCB (isiD (.ty "dict") (isT "dict")) (rCons (rVar 0) (rCons (rC (.vv (.ty "dict"))) rNil))))
abbrev cc2 (a : Ad) : RT := rT (rBin neD (rCB lenD (rCons (rVar 0) rNil)) (rCB (onP a.cPARTS fun μ => .ok (.int ((kv_PARTS a).length : Nat)) μ) (rCons (rC (d_PARTS a)) rNil)))
abbrev cc3 (a : Ad) : RT := rNotT (rT (rCB (allD false) (rCons (rLc (rItems (rVar 0)) (.nm 1) (([("part", 1)] : List (Str × Nat)).map (·.2)) rYes (rCall 2 (ct_is_word a) (rCons (rVar 1) (rCons (rCB (onP a.cPARTS fun μ => .ok (.lst (((kv_PARTS a).map (·.1)).map Key.d)) μ) (rCons (rC (d_PARTS a)) rNil)) rNil)))) rNil)))
abbrev cFor (a : Ad) : RS := rFor (rP a.cPARTS (pairsP ((kv_PARTS a).map (·.1)) xs_PARTS) (rC (d_PARTS a))) (.tp [1, 2]) (bChk a)
theorem r_chk (a : Ad) : r_check_rule a = rSeq (rIfS (rOrT (cc1 a) (rOrT (cc2 a) (cc3 a))) (rRaise a.kInvalidRule ["part"] (rCons (rC (.str "")) rNil)) (fun δ μ => .nx δ μ)) (cFor a) := rfl
theorem chk_no (a : Ad) (d : D) (μ : List Ob) (h : (rOrT (cc1 a) (rOrT (cc2 a) (cc3 a))) [some d, none, none] μ = .ok true μ) : ct_check_rule a [d] μ = .exc (xr a "") μ := by
  refine pu_ex ⟨[some d, none, none], [], ?_⟩ (by simp [xr, scL, D.sc])
  rw [r_chk, List.append_nil]
  show rSeq _ _ [some d, none, none] μ = _
  rw [s_rSeq, s_rIfS, h]
  simp [rRaise, xr]
theorem kb_nd : kitB "NoneType" "dict" = some false := by decide +kernel
theorem kb_ld : kitB "list" "dict" = some false := by decide +kernel
theorem kb_strd : kitB "str" "dict" = some false := by decide +kernel
theorem kb_id : kitB "int" "dict" = some false := by decide +kernel
theorem cc1_odd (a : Ad) (d : D) (μ : List Ob) (h : d ∈ [D.non, .lst [], .str "rule", .int 5]) : cc1 a [some d, none, none] μ = .ok true μ := by
  simp only [List.mem_cons, List.not_mem_nil, or_false] at h
  rcases h with rfl | rfl | rfl | rfl <;> simp [isiD, isT, D.tyS, kb_nd, kb_ld, kb_strd, kb_id]
theorem cc1_dct (a : Ad) (ks : List Key) (xs : List D) (μ : List Ob) : cc1 a [some (.dct ks xs), none, none] μ = .ok false μ := by
  simp [isiD, isT, D.tyS, kb_dct]
theorem cc2_dct (a : Ad) (ks : List Key) (xs : List D) (μ : List Ob) : cc2 a [some (.dct ks xs), none, none] μ = .ok (!decide (xs.length = 6)) μ := by
  have h5 : (D.dct ks xs).view μ = .dct ks xs := rfl
  have : lenV (.dct ks xs) μ = .ok (.int (xs.length : Nat)) μ := rfl
  by_cases h : xs.length = 6
  · have h' : (xs.length : Int) = 6 := by omega
    simp [h5, this, onP_P, kv_len, ne_ints, h, h']
  · have h' : ¬ (xs.length : Int) = 6 := by omega
    simp [h5, this, onP_P, kv_len, ne_ints, h, h']
theorem cc3_full (a : Ad) (v : Str → D) (μ : List Ob) : cc3 a [some (ruleV v), none, none] μ = .ok false μ := by
  have e1 := comp_t (t := .nm 1) (vs := [1]) (ft := rYes) (fe := rCall 2 (ct_is_word a) (rCons (rVar 1) (rCons (rCB (onP a.cPARTS fun μ => .ok (.lst (((kv_PARTS a).map (·.1)).map Key.d)) μ) (rCons (rC (d_PARTS a)) rNil)) rNil))) (δ := [some (ruleV v), none, none]) (μ := μ) D.str (fun _ => true) (fun _ => .bl true) KW [] (by decide) fun w hw => by
    refine ⟨_, rfl, rfl, fun _ => ?_⟩
    have := is_word_l a (w := w) (ws := KW) μ (kw_ok w hw) kw_ok
    simp [wipeD, onP_P, kv_keys', this, hw]
  rw [List.nil_append, List.filter_eq_self.mpr (fun _ _ => rfl)] at e1
  unfold cc3
  rw [s_rNotT, s_rT, s_rCB, s_rCons, s_rLc]
  have : rItems (rVar 0) [some (ruleV v), none, none] μ = .ok (KW.map D.str) μ := rfl
  rw [this]
  simp only [R.ok_bind, List.map_cons, List.map_nil]
  rw [e1]
  simp only [R.ok_bind, s_rNil, all_true]
  rfl
def chkR (a : Ad) (μ : List Ob) : Option Str → R D
  | none => .ok .non μ
  | some p => .exc (xr a p) μ
theorem check_any (a : Ad) {d : D} {f : Option Str} (μ : List Ob) (h : RF d f) : ct_check_rule a [d] μ = chkR a μ f := by
  cases h with
  | odd d h => exact chk_no a d μ (by rw [s_rOrT, cc1_odd a d μ h]; rfl)
  | few ks xs h hl he =>
    refine chk_no a _ μ ?_
    have h2 := cc2_dct a (ks.map Sum.inr) xs μ
    rw [decide_eq_false (by omega)] at h2
    rw [s_rOrT, cc1_dct]
    simp only [R.ok_bind]
    rw [s_rOrT, h2]
    rfl
  | full v h =>
    have hc : (rOrT (cc1 a) (rOrT (cc2 a) (cc3 a))) [some (ruleV v), none, none] μ = .ok false μ := by
      rw [s_rOrT, show cc1 a [some (ruleV v), none, none] μ = .ok false μ from cc1_dct a ..]
      simp only [R.ok_bind]
      rw [s_rOrT, show cc2 a [some (ruleV v), none, none] μ = .ok false μ from cc2_dct a ..]
      simp only [R.ok_bind]
      exact cc3_full a v μ
    have hP : rP a.cPARTS (pairsP ((kv_PARTS a).map (·.1)) xs_PARTS) (rC (d_PARTS a)) [some (ruleV v), none, none] μ = .ok (pairsP ((kv_PARTS a).map (·.1)) xs_PARTS) μ := if_pos rfl
    obtain ⟨δ, l⟩ := chk_loop a v μ PWs none none fun p hp => ⟨hp, h _ (pw_kw p hp)⟩
    rw [← hp6 a] at l
    have e : r_check_rule a [some (ruleV v), none, none] μ = match bad1 v PWs with
      | none => .nx δ μ
      | some p => .exc (xr a p) δ μ := by
      rw [r_chk, s_rSeq, s_rIfS, hc]
      simp only [R.ok_st]
      show rFor (rP a.cPARTS (pairsP ((kv_PARTS a).map (·.1)) xs_PARTS) (rC (d_PARTS a))) (.tp [1, 2]) (bChk a) _ μ = _
      rw [s_rFor, hP]
      exact l
    cases hb : bad1 v PWs with
    | none =>
      rw [hb] at e
      exact pu_nx ⟨δ, [], by rw [List.append_nil]; exact e⟩
    | some p =>
      rw [hb] at e
      exact pu_ex ⟨δ, [], by rw [List.append_nil]; exact e⟩ (by simp [xr, scL, D.sc])
end
end LX

namespace LX
open PySem L2 DL
noncomputable section
def wOdd : List D := [.non, .lst [.str "lose"], .tup [.str "pause", .str "lose"], .tup [.str "lose", .str "lose"], .tup [.str "come"], .str "anew", .tup [.str "anew", .int 5], .tup [.str "go"]]
inductive WV : D → Bool → Prop
  | good (q : Str → Bool) : WV (wordsD q) true
  | odd (d : D) (h : d ∈ wOdd) : WV d false
def xp (a : Ad) : Exn := ⟨.ref a.kInvalidPrices, [], []⟩
def xw (a : Ad) : Exn := ⟨.ref a.kInvalidWords, [], []⟩
theorem kw_cases {p : Str} (h : p ∈ KW) : p = "counts" ∨ p = "evening" ∨ p = "lost" ∨ p = "remembers" ∨ p = "search" ∨ p = "tells" := by
  simpa only [KW, List.mem_cons, List.not_mem_nil, or_false] using h
theorem bad_none {v : Str → D} (h : bad1 v PWs = none) : ∀ p ∈ PWs, fit v p = true := by
  have : ∀ ps, bad1 v ps = none → ∀ p ∈ ps, fit v p = true := by
    intro ps
    induction ps with
    | nil => intro _ p hp; cases hp
    | cons q ps ih =>
      intro h p hp
      rw [bad1] at h
      by_cases hf : fit v q = true
      · rw [if_pos hf] at h
        rcases List.mem_cons.mp hp with rfl | hp
        · exact hf
        · exact ih h p hp
      · rw [if_neg hf] at h; cases h
  exact this PWs h
theorem good_str {ws : List Str} {d : D} (h : good ws d = true) : ∃ w, d = .str w ∧ w ∈ ws := by
  cases d with
  | str w => exact ⟨w, rfl, of_decide_eq_true h⟩
  | _ => cases h
theorem rl_of {v : Str → D} (h : bad1 v PWs = none) : ∃ r, RlOk r ∧ ruleV v = ruleD r := by
  have f := bad_none h
  have g : ∀ p ∈ PWs, ∃ w, v p.1 = .str w ∧ w ∈ p.2 := fun p hp => good_str (f p hp)
  obtain ⟨w1, e1, m1⟩ := g ("counts", ["comes", "fits"]) (by simp [PWs])
  obtain ⟨w2, e2, m2⟩ := g ("evening", ["looks", "sends"]) (by simp [PWs])
  obtain ⟨w3, e3, m3⟩ := g ("lost", ["again", "noted"]) (by simp [PWs])
  obtain ⟨w4, e4, m4⟩ := g ("remembers", ["number", "price", "thing"]) (by simp [PWs])
  obtain ⟨w5, e5, m5⟩ := g ("search", ["forgets", "keeps"]) (by simp [PWs])
  obtain ⟨w6, e6, m6⟩ := g ("tells", ["evening", "now"]) (by simp [PWs])
  refine ⟨⟨w1, w2, w3, w4, w5, w6⟩, ⟨m1, m2, m3, m4, m5, m6⟩, ?_⟩
  unfold ruleV ruleD KW
  simp only [List.map_cons, List.map_nil, e1, e2, e3, e4, e5, e6]
/-- the fault of three things -/
inductive Flt where
  | prices
  | rule (p : Str)
  | words
def fltOf (bp : Bool) (f : Option Str) (bw : Bool) : Option Flt := match bp, f, bw with
  | false, _, _ => some .prices
  | true, some p, _ => some (.rule p)
  | true, none, false => some .words
  | true, none, true => none
def Flt.x (a : Ad) : Flt → Exn
  | .prices => xp a
  | .rule p => xr a p
  | .words => xw a
def Flt.d : Flt → D
  | .prices => .str "prices"
  | .rule p => .tup [.str "rule", .str p]
  | .words => .str "words"
abbrev n1 (a : Ad) : RS := rIfS (rNotT (rT (rCall 3 (ct_is_integer a) (rCons (rVar 1) (rCons (rC (.int 2)) (rCons (rC (.int 3)) rNil)))))) (rRaise a.kInvalidPrices [] rNil) (fun δ μ => .nx δ μ)
abbrev n2 (a : Ad) : RS := rDrop (rCall 1 (ct_check_rule a) (rCons (rVar 2) rNil))
abbrev t3a (a : Ad) : RT := rNotT (rT (rCB (isiD (.ty "tuple") (isT "tuple")) (rCons (rVar 3) (rCons (rC (.vv (.ty "tuple"))) rNil))))
abbrev t3b (a : Ad) : RT := rNotT (rT (rCB (allD false) (rCons (rLc (rItems (rVar 3)) (.nm 5) (([("word", 5)] : List (Str × Nat)).map (·.2)) rYes (rCall 2 (ct_is_word a) (rCons (rVar 5) (rCons (rC (d_WORDS a)) rNil)))) rNil)))
abbrev n3 (a : Ad) : RS := rIfS (rOrT (t3a a) (t3b a)) (rRaise a.kInvalidWords [] rNil) (fun δ μ => .nx δ μ)
abbrev t4 (a : Ad) : RT := rT (rBin neD (rLc (rItems (rC (d_WORDS a))) (.nm 5) (([("word", 5)] : List (Str × Nat)).map (·.2)) (rT (rBin (inD false) (rVar 5) (rVar 3))) (rVar 5)) (rCB (listD false) (rCons (rVar 3) rNil)))
abbrev n4 (a : Ad) : RS := rIfS (t4 a) (rRaise a.kInvalidWords [] rNil) (fun δ μ => .nx δ μ)
abbrev n5 (a : Ad) : RS := rSeq (rSetF a.kBook "highest" (rVar 0) (rVar 1))
    (rSeq (rSetF a.kBook "terms" (rVar 0) (rDc (rP a.cPARTS (((kv_PARTS a).map (·.1)).map Key.d) (rC (d_PARTS a))) (.nm 4) (([("part", 4)] : List (Str × Nat)).map (·.2)) rYes (rVar 4) (rBin getD (rVar 2) (rVar 4))))
    (rSetF a.kBook "kinds" (rVar 0) (rVar 3)))
theorem r_ini (a : Ad) : r_Book_init a = rSeq (n1 a) (rSeq (n2 a) (rSeq (n3 a) (rSeq (n4 a) (n5 a)))) := rfl
section
variable (a : Ad) (s P U W : D) (o4 o5 : Option D) (μ : List Ob)
theorem n1_ok {b : Bool} (h : PV P b) : n1 a [some s, some P, some U, some W, none, none] μ = if b = true then .nx [some s, some P, some U, some W, none, none] μ else .exc (xp a) [some s, some P, some U, some W, none, none] μ := by
  have e := is_price a μ h
  cases b <;> simp [e, rRaise, xp]
theorem n2_ok {f : Option Str} (h : RF U f) : n2 a [some s, some P, some U, some W, none, none] μ = match f with
    | none => .nx [some s, some P, some U, some W, none, none] μ
    | some p => .exc (xr a p) [some s, some P, some U, some W, none, none] μ := by
  have e := check_any a μ h
  cases f <;> simp [e, chkR]
theorem kb_ntup : kitB "NoneType" "tuple" = some false := by decide +kernel
theorem kb_ltup : kitB "list" "tuple" = some false := by decide +kernel
theorem kb_stup : kitB "str" "tuple" = some false := by decide +kernel
theorem t3a_ok (b : Bool) (h : isiD (.ty "tuple") (isT "tuple") [W, .vv (.ty "tuple")] μ = .ok (.bl b) μ) : t3a a [some s, some P, some U, some W, none, none] μ = .ok (!b) μ := by
  simp [h]
theorem bls_good : ∀ ds : List D, blsD (ds.map fun d => D.bl (good W6 d)) = some (ds.map (good W6))
  | [] => rfl
  | d :: ds => by
    rw [List.map_cons, blsD, bls_good ds]
    rfl
theorem t3b_ok (ds : List D) (hl : ds.length < 1000) (h : ∀ d ∈ ds, VOk d) : t3b a [some s, some P, some U, some (.tup ds), none, none] μ = .ok (!ds.all (good W6)) μ := by
  have hWd : d_WORDS a = .tup (W6.map D.str) := rfl
  have c1 := comp_t (t := .nm 5) (vs := [5]) (ft := rYes) (fe := rCall 2 (ct_is_word a) (rCons (rVar 5) (rCons (rC (d_WORDS a)) rNil))) (δ := [some s, some P, some U, some (.tup ds), none, none]) (μ := μ) (id : D → D) (fun _ => true) (fun d => .bl (good W6 d)) ds [] (by
      simp only [List.length_nil]
      omega) fun d hd => by
    refine ⟨_, rfl, rfl, fun _ => ?_⟩
    have := is_word_gt a (ws := W6) μ (h d hd) w6_ok
    simp [wipeD, hWd, this]
  rw [List.nil_append, List.filter_eq_self.mpr (fun _ _ => rfl), List.map_id] at c1
  unfold t3b
  rw [s_rNotT, s_rT, s_rCB, s_rCons, s_rLc]
  have : rItems (rVar 3) [some s, some P, some U, some (.tup ds), none, none] μ = .ok ds μ := rfl
  rw [this]
  simp only [R.ok_bind, List.map_cons, List.map_nil]
  rw [c1]
  simp only [R.ok_bind, s_rNil, allD, vw_lst, elsD, bls_good]
  simp [Function.comp_def]
theorem t4_ok (ws : List Str) (h : ∀ w ∈ ws, PyData.strOk w = true) : t4 a [some s, some P, some U, some (.tup (ws.map D.str)), none, none] μ = .ok (!decide ((W6.filter fun w => decide (w ∈ ws)) = ws)) μ := by
  have hWd : d_WORDS a = .tup (W6.map D.str) := rfl
  have c2 := filt_words (t := .nm 5) (vs := [5]) (ft := rT (rBin (inD false) (rVar 5) (rVar 3))) (fe := rVar 5) (δ := [some s, some P, some U, some (.tup (ws.map D.str)), none, none]) (μ := μ) ws fun w hw => by
    refine ⟨_, rfl, ?_, rfl⟩
    have := in_strsT (neg := false) (ws := ws) (μ := μ) (w6_ok w hw) h
    simp [-inD_tup, wipeD, this]
  have n2 := ne_lsts (μ := μ) (fw_ok fun w => decide (w ∈ ws)) h
  unfold t4
  rw [s_rT, s_rBin, s_rLc]
  have : rItems (rC (d_WORDS a)) [some s, some P, some U, some (.tup (ws.map D.str)), none, none] μ = .ok (W6.map D.str) μ := rfl
  rw [this]
  simp only [R.ok_bind, List.map_cons, List.map_nil]
  rw [c2]
  have e2 : rCB (listD false) (rCons (rVar 3) rNil) [some s, some P, some U, some (.tup (ws.map D.str)), none, none] μ = .ok (.lst (ws.map D.str)) μ := by simp
  simp only [R.ok_bind]
  rw [e2]
  simp only [R.ok_bind]
  rw [n2]
  rfl
end
end
end LX

namespace LX
open PySem L2 DL
noncomputable section
theorem strs_vok {ws : List Str} (h : ∀ w ∈ ws, PyData.strOk w = true) : ∀ d ∈ ws.map D.str, VOk d := fun d hd => by
  obtain ⟨w, hw, rfl⟩ := List.mem_map.mp hd
  exact .str w (h w hw)
theorem ok5 : ∀ w ∈ (["pause", "lose", "come", "go", "anew"] : List Str), PyData.strOk w = true := by decide +kernel
section
variable (a : Ad) (s P U W : D) (μ : List Ob) (k : RS)
abbrev sl6 (s P U W : D) : Sl := [some s, some P, some U, some W, none, none]
theorem n3_no (h : (rOrT (t3a a) (t3b a)) (sl6 s P U W) μ = .ok true μ) : rSeq (n3 a) k (sl6 s P U W) μ = .exc (xw a) (sl6 s P U W) μ := by
  unfold n3
  rw [s_rSeq, s_rIfS, h]
  simp [rRaise, xw]
theorem n3_yes (h : (rOrT (t3a a) (t3b a)) (sl6 s P U W) μ = .ok false μ) : rSeq (n3 a) k (sl6 s P U W) μ = k (sl6 s P U W) μ := by
  unfold n3
  rw [s_rSeq, s_rIfS, h]
  simp
theorem n4_no (h : t4 a (sl6 s P U W) μ = .ok true μ) : rSeq (n4 a) k (sl6 s P U W) μ = .exc (xw a) (sl6 s P U W) μ := by
  unfold n4
  rw [s_rSeq, s_rIfS, h]
  simp [rRaise, xw]
theorem t3_not (T : String) (ht : W.tyS = some T) (hk : kitB T "tuple" = some false) (hv : W.view μ = W) : (rOrT (t3a a) (t3b a)) (sl6 s P U W) μ = .ok true μ := by
  have e := t3a_ok a s P U W μ false (by simp [isiD, isT, hv, ht, hk])
  rw [s_rOrT, show t3a a (sl6 s P U W) μ = .ok true μ from e]
  rfl
theorem t3_tup (ds : List D) (hl : ds.length < 1000) (h : ∀ d ∈ ds, VOk d) : (rOrT (t3a a) (t3b a)) (sl6 s P U (.tup ds)) μ = .ok (!ds.all (good W6)) μ := by
  have e := t3a_ok a s P U (.tup ds) μ true (by simp [isiD, isT, D.tyS, kb_tup])
  rw [s_rOrT, show t3a a (sl6 s P U (.tup ds)) μ = .ok false μ from e]
  exact t3b_ok a s P U μ ds hl h
theorem n34_odd (h : W ∈ wOdd) : rSeq (n3 a) (rSeq (n4 a) k) (sl6 s P U W) μ = .exc (xw a) (sl6 s P U W) μ := by
  simp only [wOdd, List.mem_cons, List.not_mem_nil, or_false] at h
  rcases h with rfl | rfl | rfl | rfl | rfl | rfl | rfl | rfl
  · exact n3_no a _ _ _ _ _ _ (t3_not a _ _ _ _ _ "NoneType" rfl kb_ntup rfl)
  · exact n3_no a _ _ _ _ _ _ (t3_not a _ _ _ _ _ "list" rfl kb_ltup rfl)
  · have ho : ∀ w ∈ (["pause", "lose"] : List Str), PyData.strOk w = true := by decide +kernel
    have t := t3_tup a s P U μ ((["pause", "lose"] : List Str).map D.str) (by decide) (strs_vok ho)
    have t' : (((["pause", "lose"] : List Str).map D.str).all (good W6)) = true := by decide +kernel
    rw [t'] at t
    refine (n3_yes a s P U _ μ _ t).trans ?_
    have u := t4_ok a s P U μ ["pause", "lose"] ho
    have u' : decide ((W6.filter fun w => decide (w ∈ (["pause", "lose"] : List Str))) = (["pause", "lose"] : List Str)) = false := by decide +kernel
    rw [u'] at u
    exact n4_no a _ _ _ _ _ _ u
  · have ho : ∀ w ∈ (["lose", "lose"] : List Str), PyData.strOk w = true := by decide +kernel
    have t := t3_tup a s P U μ ((["lose", "lose"] : List Str).map D.str) (by decide) (strs_vok ho)
    have t' : (((["lose", "lose"] : List Str).map D.str).all (good W6)) = true := by decide +kernel
    rw [t'] at t
    refine (n3_yes a s P U _ μ _ t).trans ?_
    have u := t4_ok a s P U μ ["lose", "lose"] ho
    have u' : decide ((W6.filter fun w => decide (w ∈ (["lose", "lose"] : List Str))) = (["lose", "lose"] : List Str)) = false := by decide +kernel
    rw [u'] at u
    exact n4_no a _ _ _ _ _ _ u
  · have ho : ∀ w ∈ (["come"] : List Str), PyData.strOk w = true := by decide +kernel
    have t := t3_tup a s P U μ ((["come"] : List Str).map D.str) (by decide) (strs_vok ho)
    have t' : (((["come"] : List Str).map D.str).all (good W6)) = false := by decide +kernel
    rw [t'] at t
    exact n3_no a _ _ _ _ _ _ t
  · exact n3_no a _ _ _ _ _ _ (t3_not a _ _ _ _ _ "str" rfl kb_stup rfl)
  · have ho : ∀ d ∈ [D.str "anew", .int 5], VOk d := fun d hd => by
      simp only [List.mem_cons, List.not_mem_nil, or_false] at hd
      rcases hd with rfl | rfl
      · exact .str _ (ok5 _ (by simp))
      · exact .int 5
    have t := t3_tup a s P U μ [D.str "anew", .int 5] (by decide) ho
    have t' : ([D.str "anew", .int 5].all (good W6)) = false := by decide +kernel
    rw [t'] at t
    exact n3_no a _ _ _ _ _ _ t
  · have ho : ∀ w ∈ (["go"] : List Str), PyData.strOk w = true := by decide +kernel
    have t := t3_tup a s P U μ ((["go"] : List Str).map D.str) (by decide) (strs_vok ho)
    have t' : (((["go"] : List Str).map D.str).all (good W6)) = false := by decide +kernel
    rw [t'] at t
    exact n3_no a _ _ _ _ _ _ t
end
abbrev bookG (a : Ad) (P U W : D) : D := .ins a.kBook F3 [P, U, W]
theorem Flt.sc (a : Ad) (t : Flt) (n : Nat) : scL n (t.x a).xs = true := by cases t <;> simp [Flt.x, xp, xr, xw, scL, D.sc]
/-- Book(P, U, W), the refusal of the first at fault -/
theorem init_no (a : Ad) {P U W : D} {b bw : Bool} {f : Option Str} {t : Flt} (n : D) (μ : List Ob) (hP : PV P b) (hU : RF U f) (hW : WV W bw) (h : fltOf b f bw = some t) :
    cm_Book a [n, P, U, W] μ = .exc (t.x a) μ := by
  refine pu_ex ⟨sl6 n P U W, [], ?_⟩ (t.sc a 0)
  rw [List.append_nil, r_ini]
  show rSeq (n1 a) (rSeq (n2 a) (rSeq (n3 a) (rSeq (n4 a) (n5 a)))) (sl6 n P U W) μ = _
  have e1 := n1_ok a n P U W μ hP
  have e2 := n2_ok a n P U W μ hU
  rw [s_rSeq, show n1 a (sl6 n P U W) μ = _ from e1]
  cases b with
  | false => cases h; rfl
  | true =>
    simp only [if_true]
    rw [s_rSeq, show n2 a (sl6 n P U W) μ = _ from e2]
    cases f with
    | some p => cases h; rfl
    | none =>
      simp only
      cases hW with
      | good q => cases h
      | odd d hd =>
        cases h
        exact n34_odd a n P U W μ (n5 a) hd
theorem make_no (a : Ad) {P U W : D} {b bw : Bool} {f : Option Str} {t : Flt} {μ μ1 : List Ob} {δ : Sl} {fs : RA} (hP : PV P b) (hU : RF U f) (hW : WV W bw) (h : fltOf b f bw = some t) (e : fs δ μ = .ok [P, U, W] μ1) :
    rMakeX a.kBook 3 (cm_Book a) fs δ μ = .exc (t.x a) (μ1 ++ [.ins a.kBook [] []]) := by
  have i := init_no a (.loc μ1.length) (μ1 ++ [.ins a.kBook [] []]) hP hU hW h
  unfold rMakeX
  rw [e]
  simp only [R.ok_bind, List.length_cons, List.length_nil]
  simp only [if_true]
  rw [i]
end
end LX

namespace LX
open PySem L2 DL
noncomputable section
def RN : List Str := PWs.map fun p => reprText p.1
theorem rn_ok : ∀ k ∈ KW, PyData.strOk (reprText k) = true ∧ (reprText k).length ≤ 16777216 := by decide +kernel
theorem rn_up : PyProof.Rows.sortedS RN = true := by decide +kernel
theorem rn_len : RN.length = 6 := rfl
theorem rn_kw : RN = KW.map reprText := rfl
theorem rn_str : ∀ x ∈ RN, PyData.strOk x = true := fun x hx => by
  rw [rn_kw] at hx
  obtain ⟨k, hk, rfl⟩ := List.mem_map.mp hx
  exact (rn_ok k hk).1
theorem srtOk_strs (l : List Str) (h : ∀ x ∈ l, PyData.strOk x = true) : srtOk (l.map D.str) = true := by
  unfold srtOk
  rw [Bool.and_eq_true, Bool.and_eq_true, Bool.or_eq_true]
  refine ⟨⟨okd_strs 60 l h, List.all_eq_true.mpr fun d hd => List.all_eq_true.mpr fun e he => ?_⟩, .inr (List.all_eq_true.mpr fun d hd => ?_)⟩
  · obtain ⟨x, _, rfl⟩ := List.mem_map.mp hd
    obtain ⟨y, _, rfl⟩ := List.mem_map.mp he
    simp [D.py, PySem.W.alike]
  · obtain ⟨x, _, rfl⟩ := List.mem_map.mp hd; rfl
theorem of_strs (l : List Str) : ∀ L : List D, (∀ d ∈ L, ∃ w ∈ l, d = .str w) → ∃ l' : List Str, (∀ w ∈ l', w ∈ l) ∧ L = l'.map D.str
  | [], _ => ⟨[], (fun w hw => by cases hw), rfl⟩
  | d :: L, h => by
    obtain ⟨w, hw, rfl⟩ := h d List.mem_cons_self
    obtain ⟨l', h1, rfl⟩ := of_strs l L fun e he => h e (List.mem_cons_of_mem _ he)
    refine ⟨w :: l', fun x hx => ?_, rfl⟩
    rcases List.mem_cons.mp hx with rfl | hx
    · exact hw
    · exact h1 x hx
theorem srt_strs (l : List Str) : ∃ l' : List Str, (∀ w ∈ l', w ∈ l) ∧ l'.length = l.length ∧ srt (l.map D.str) = l'.map D.str := by
  obtain ⟨l', h1, h2⟩ := of_strs l (srt (l.map D.str)) fun d hd => by
    obtain ⟨w, hw, rfl⟩ := List.mem_map.mp (srt_perm.mem_iff.mp hd)
    exact ⟨w, hw, rfl⟩
  refine ⟨l', h1, ?_, h2⟩
  have := congrArg List.length h2
  rw [srt_perm.length_eq, List.length_map, List.length_map] at this
  exact this.symm
abbrev ff1 (a : Ad) : RE := rLc (rItems (fun _ μ => noX (ct__law_parts a [] μ))) (.nm 2) (([("_law_row", 2)] : List (Str × Nat)).map (·.2)) rYes (rCB reprD (rCons (rBin getD (rVar 2) (rC (.int 0))) rNil))
abbrev ff2 (a : Ad) : RE := rCB (sortA false) (rCons (rLc (rItems (rVar 0)) (.nm 3) (([("_law_name", 3)] : List (Str × Nat)).map (·.2)) rYes (rCB reprD (rCons (rVar 3) rNil))) rNil)
abbrev fc1 (a : Ad) : RT := rNotT (rT (rCB (isiD (.ty "dict") (isT "dict")) (rCons (rVar 0) (rCons (rC (.vv (.ty "dict"))) rNil))))
abbrev bFlt (a : Ad) : RS := rIfS (rOrT (rNotT (rT (rCB (isiD (.ty "str") (isT "str")) (rCons (rBin getD (rVar 0) (rBin getD (rVar 2) (rC (.int 0)))) (rCons (rC (.vv (.ty "str"))) rNil))))) (rT (rBin (inD true) (rBin getD (rVar 0) (rBin getD (rVar 2) (rC (.int 0)))) (rSlice (rVar 2) (rSome (rC (.int 1))) rNone)))) (rRet (rBin getD (rVar 2) (rC (.int 0)))) (fun δ μ => .nx δ μ)
abbrev fFor (a : Ad) : RS := rFor (rItems (fun _ μ => noX (ct__law_parts a [] μ))) (.nm 2) (bFlt a)
theorem r_flt (a : Ad) : r_law_rule_fault a = rSeq (rSet 1 (ff1 a)) (rSeq (rIfS (rOrT (fc1 a) (rT (rBin neD (ff2 a) (rVar 1)))) (rRet (rC (.str ""))) (fun δ μ => .nx δ μ)) (rSeq (fFor a) (rRet (rC .non)))) := rfl
theorem ff1_ok (a : Ad) (d : D) (μ : List Ob) : ff1 a [some d, none, none, none] μ = .ok (.lst (RN.map D.str)) μ := by
  have c := comp_t (t := .nm 2) (vs := [2]) (ft := rYes) (fe := rCB reprD (rCons (rBin getD (rVar 2) (rC (.int 0))) rNil)) (δ := [some d, none, none, none]) (μ := μ) row (fun _ => true) (fun p => .str (reprText p.1)) PWs [] (by decide) fun p hp => by
    refine ⟨_, rfl, rfl, fun _ => ?_⟩
    have h := (rn_ok p.1 (pw_kw p hp)).2
    unfold row
    simp [wipeD, reprD, h]
  rw [List.nil_append, List.filter_eq_self.mpr (fun _ _ => rfl)] at c
  unfold ff1
  rw [s_rLc]
  have : rItems (fun _ μ => noX (ct__law_parts a [] μ)) [some d, none, none, none] μ = .ok (PWs.map row) μ := by
    unfold rItems
    simp only [parts_ok, noX, R.ok_bind, itemsD]
  rw [this]
  simp only [R.ok_bind, List.map_cons, List.map_nil]
  rw [c]
  simp only [R.ok_bind, RN, List.map_map]
  rfl
theorem ff2_ok (a : Ad) (ks : List Str) (xs : List D) (o : Option D) (μ : List Ob) (hl : ks.length < 1000) (h : ∀ k ∈ ks, k ∈ KW) : ff2 a [some (.dct (ks.map Sum.inr) xs), o, none, none] μ = .ok (.lst (srt ((ks.map reprText).map D.str))) μ := by
  have c := comp_t (t := .nm 3) (vs := [3]) (ft := rYes) (fe := rCB reprD (rCons (rVar 3) rNil)) (δ := [some (.dct (ks.map Sum.inr) xs), o, none, none]) (μ := μ) D.str (fun _ => true) (fun k => .str (reprText k)) ks [] (by simp; omega) fun k hk => by
    refine ⟨_, rfl, rfl, fun _ => ?_⟩
    have h := (rn_ok k (h k hk)).2
    simp [wipeD, reprD, h]
  rw [List.nil_append, List.filter_eq_self.mpr (fun _ _ => rfl)] at c
  have hs := srtOk_strs (ks.map reprText) fun x hx => by
    obtain ⟨k, hk, rfl⟩ := List.mem_map.mp hx
    exact (rn_ok k (h k hk)).1
  unfold ff2
  rw [s_rCB, s_rCons, s_rLc]
  have : rItems (rVar 0) [some (.dct (ks.map Sum.inr) xs), o, none, none] μ = .ok (ks.map D.str) μ := by
    unfold rItems
    simp [itemsD, Function.comp_def, Key.d]
  rw [this]
  simp only [R.ok_bind, List.map_cons, List.map_nil]
  rw [c]
  have e : (ks.map fun k => D.str (reprText k)) = (ks.map reprText).map D.str := by rw [List.map_map]; rfl
  rw [e]
  simp only [R.ok_bind, s_rNil, sortA, vw_lst]
  rw [if_pos hs]
  simp
end
end LX

namespace LX
open PySem L2 DL
noncomputable section
def optD : Option Str → D
  | none => .non
  | some p => .str p
theorem fc1_odd (a : Ad) (d : D) (o : Option D) (μ : List Ob) (h : d ∈ [D.non, .lst [], .str "rule", .int 5]) : fc1 a [some d, o, none, none] μ = .ok true μ := by
  simp only [List.mem_cons, List.not_mem_nil, or_false] at h
  rcases h with rfl | rfl | rfl | rfl <;> simp [isiD, isT, D.tyS, kb_nd, kb_ld, kb_strd, kb_id]
theorem fc1_dct (a : Ad) (ks : List Key) (xs : List D) (o : Option D) (μ : List Ob) : fc1 a [some (.dct ks xs), o, none, none] μ = .ok false μ := by
  simp [isiD, isT, D.tyS, kb_dct]
theorem flt_no (a : Ad) (d : D) (μ : List Ob) (h : (rOrT (fc1 a) (rT (rBin neD (ff2 a) (rVar 1)))) [some d, some (.lst (RN.map D.str)), none, none] μ = .ok true μ) : ct__law_rule_fault a [d] μ = .ok (.str "") μ := by
  refine pu_rt ⟨[], ?_⟩ (by simp [D.sc])
  rw [r_flt, List.append_nil]
  show rSeq _ _ [some d, none, none, none] μ = _
  rw [s_rSeq, s_rSet, ff1_ok]
  simp only [R.ok_st, List.set_cons_succ, List.set_cons_zero]
  rw [s_rSeq, s_rIfS, h]
  simp
theorem neq_len {xs ys : List Str} {μ : List Ob} (h : ∀ x ∈ xs, PyData.strOk x = true) (h' : ∀ x ∈ ys, PyData.strOk x = true) (hl : xs.length ≠ ys.length) : neD (.lst (xs.map D.str)) (.lst (ys.map D.str)) μ = .ok (.bl true) μ := by
  rw [ne_lsts h h', decide_eq_false (fun e => hl (by rw [e]))]
  rfl
theorem flt_turn (a : Ad) (v : Str → D) (o1 o3 : Option D) (p : Str × List Str) (μ : List Ob) (hp : p ∈ PWs) (hv : VOk (v p.1)) :
    bFlt a [some (ruleV v), o1, some (row p), o3] μ = if fit v p = true then .nx [some (ruleV v), o1, some (row p), o3] μ else .rt (.str p.1) μ := by
  have h4 := getV_rule v (pw_kw p hp) (μ := μ)
  have h5 : (ruleV v).view μ = ruleV v := rfl
  have h6 := isi_str (μ := μ) hv
  unfold fit
  cases hd : v p.1 with
  | str w =>
    rw [hd] at h4 h6 hv
    have hw : PyData.strOk w = true := by cases hv; assumption
    have h7 := in_strs (neg := true) (μ := μ) hw (pw_ok p hp).2
    by_cases hg : w ∈ p.2
    · have hg' : good p.2 (.str w) = true := decide_eq_true hg
      rw [if_pos hg']
      unfold row
      simp [-inD_lst, h4, h5, h6, cutL_1, h7, isS, hg]
    · have hg' : ¬ good p.2 (.str w) = true := fun z => hg (of_decide_eq_true z)
      rw [if_neg hg']
      unfold row
      simp [-inD_lst, h4, h5, h6, cutL_1, h7, isS, hg]
  | _ =>
    rw [hd] at h4 h6
    unfold row
    simp [h4, h5, h6, isS, good]
theorem flt_loop (a : Ad) (v : Str → D) (o1 o3 : Option D) (μ : List Ob) : ∀ (ps : List (Str × List Str)) (o2 : Option D), (∀ p ∈ ps, p ∈ PWs ∧ VOk (v p.1)) →
    ∃ δ, forL (.nm 2) (bFlt a) (ps.map row) [some (ruleV v), o1, o2, o3] μ = match bad1 v ps with
      | none => .nx δ μ
      | some p => .rt (.str p) μ
  | [], o2, _ => ⟨_, rfl⟩
  | p :: ps, o2, h => by
    have t := flt_turn a v o1 o3 p μ (h p List.mem_cons_self).1 (h p List.mem_cons_self).2
    rw [List.map_cons, forL]
    show ∃ δ, (match bFlt a [some (ruleV v), o1, some (row p), o3] μ with
      | .nx δ2 μ2 => forL (.nm 2) (bFlt a) (ps.map row) δ2 μ2
      | .ct δ2 μ2 => forL (.nm 2) (bFlt a) (ps.map row) δ2 μ2
      | .bk δ2 μ2 => .nx δ2 μ2
      | r => r) = _
    rw [t, bad1]
    by_cases hf : fit v p = true
    · rw [if_pos hf, if_pos hf]
      exact flt_loop a v o1 o3 μ ps _ fun q hq => h q (List.mem_cons_of_mem _ hq)
    · rw [if_neg hf, if_neg hf]
      exact ⟨[], rfl⟩
theorem kw_dct (v : Str → D) : ruleV v = .dct (KW.map Sum.inr) (KW.map v) := rfl
theorem flt_any (a : Ad) {d : D} {f : Option Str} (μ : List Ob) (h : RF d f) : ct__law_rule_fault a [d] μ = .ok (optD f) μ := by
  cases h with
  | odd d h => exact flt_no a d μ (by rw [s_rOrT, fc1_odd a d _ μ h]; rfl)
  | few ks xs h hl he hx =>
    refine flt_no a _ μ ?_
    obtain ⟨l', h1, h2, h3⟩ := srt_strs (ks.map reprText)
    have e := ff2_ok a ks xs (some (.lst (RN.map D.str))) μ (by omega) h
    rw [h3] at e
    have ho : ∀ x ∈ l', PyData.strOk x = true := fun x hx => by
      obtain ⟨k, hk, rfl⟩ := List.mem_map.mp (h1 x hx)
      exact (rn_ok k (h k hk)).1
    have n := neq_len (μ := μ) ho rn_str (by rw [h2, List.length_map, rn_len]; omega)
    rw [s_rOrT, fc1_dct]
    simp only [R.ok_bind]
    rw [s_rT, s_rBin, e]
    simp only [R.ok_bind]
    show DL.R.bind (neD (.lst (l'.map D.str)) (.lst (RN.map D.str)) μ) _ = _
    rw [n]
    rfl
  | full v h =>
    have hc : (rOrT (fc1 a) (rT (rBin neD (ff2 a) (rVar 1)))) [some (ruleV v), some (.lst (RN.map D.str)), none, none] μ = .ok false μ := by
      have e := ff2_ok a KW (KW.map v) (some (.lst (RN.map D.str))) μ (by decide) fun k hk => hk
      rw [← rn_kw, ← kw_dct] at e
      rw [← srt_one (List.Perm.refl _) (sorted_le RN rn_up) (apt_strs RN)] at e
      rw [s_rOrT, show fc1 a [some (ruleV v), some (.lst (RN.map D.str)), none, none] μ = .ok false μ from fc1_dct a ..]
      simp only [R.ok_bind]
      rw [s_rT, s_rBin, e]
      simp only [R.ok_bind]
      show DL.R.bind (neD (.lst (RN.map D.str)) (.lst (RN.map D.str)) μ) _ = _
      rw [ne_lsts rn_str rn_str]
      simp
    obtain ⟨δ, l⟩ := flt_loop a v (some (.lst (RN.map D.str))) none μ PWs none fun p hp => ⟨hp, h _ (pw_kw p hp)⟩
    have hi : rItems (fun _ μ => noX (ct__law_parts a [] μ)) [some (ruleV v), some (.lst (RN.map D.str)), none, none] μ = .ok (PWs.map row) μ := by
      unfold rItems
      simp only [parts_ok, noX, R.ok_bind, itemsD]
    refine pu_rt ⟨[], ?_⟩ (by cases bad1 v PWs <;> simp [optD, D.sc])
    rw [r_flt, List.append_nil]
    show rSeq _ _ [some (ruleV v), none, none, none] μ = _
    rw [s_rSeq, s_rSet, ff1_ok]
    simp only [R.ok_st, List.set_cons_succ, List.set_cons_zero]
    rw [s_rSeq, s_rIfS, hc]
    simp only [R.ok_st]
    unfold fFor
    rw [s_rSeq, s_rFor, hi]
    simp only [R.ok_st]
    rw [l]
    cases bad1 v PWs <;> simp [optD]
end
end LX

namespace LX
open PySem L2 DL
noncomputable section
abbrev g1 (a : Ad) : RT := rOrT (rT (rCB (isiD (.ty "bool") (isT "bool")) (rCons (rBin getD (rVar 0) (rC (.int 0))) (rCons (rC (.vv (.ty "bool"))) rNil)))) (rOrT (rNotT (rT (rCB (isiD (.ty "int") (isT "int")) (rCons (rBin getD (rVar 0) (rC (.int 0))) (rCons (rC (.vv (.ty "int"))) rNil))))) (rT (rBin (inD true) (rBin getD (rVar 0) (rC (.int 0))) (rLst (rCons (rC (.int 2)) (rCons (rC (.int 3)) rNil))))))
abbrev g2c (a : Ad) : RE := rCall 1 (ct__law_rule_fault a) (rCons (rBin getD (rVar 0) (rC (.int 1))) rNil)
abbrev g2 (a : Ad) : RS := rIfS (rT (rBin isNotN (g2c a) (rC .non))) (rRet (rTup (rCons (rC (.str "rule")) (rCons (g2c a) rNil)))) (fun δ μ => .nx δ μ)
abbrev g3 (a : Ad) : RS := rSet 1 (rLst (rCons (rC (.str "anew")) (rCons (rC (.str "lose")) (rCons (rC (.str "number")) (rCons (rC (.str "pause")) (rCons (rC (.str "price")) (rCons (rC (.str "search")) rNil)))))))
abbrev g4a (a : Ad) : RT := rNotT (rT (rCB (isiD (.ty "tuple") (isT "tuple")) (rCons (rBin getD (rVar 0) (rC (.int 2))) (rCons (rC (.vv (.ty "tuple"))) rNil))))
abbrev g4b (a : Ad) : RT := rT (rBin neD (rLc (rItems (rVar 1)) (.nm 2) (([("_law_word", 2)] : List (Str × Nat)).map (·.2)) (rT (rBin (inD false) (rVar 2) (rBin getD (rVar 0) (rC (.int 2))))) (rVar 2)) (rCB (listD false) (rCons (rBin getD (rVar 0) (rC (.int 2))) rNil)))
theorem r_fau (a : Ad) : r_law_fault a = rSeq (rIfS (g1 a) (rRet (rC (.str "prices"))) (fun δ μ => .nx δ μ)) (rSeq (g2 a) (rSeq (g3 a) (rSeq (rIfS (rOrT (g4a a) (g4b a)) (rRet (rC (.str "words"))) (fun δ μ => .nx δ μ)) (rRet (rC .non))))) := rfl
abbrev sl3 (P U W : D) (o : Option D) : Sl := [some (.lst [P, U, W]), o, none]
section
variable (a : Ad) (P U W : D) (o : Option D) (μ : List Ob)
theorem int_view (i : Int) : (D.int i).view μ = .int i := rfl
theorem eqb_ii (i j : Int) : (D.int i).eqb (.int j) = decide (i = j) := by rw [D.eqb]; rfl
theorem in23 (i : Int) : inD true (.int i) (.lst [.int 2, .int 3]) μ = .ok (.bl (!(decide (2 = i) || decide (3 = i)))) μ := by
  have e : ((D.int i).okd 60 && okdL 60 [.int 2, .int 3]) = true := by simp [D.okd, okdL]
  rw [inD_lst, if_pos e]
  rw [List.any_cons, List.any_cons, eqb_ii, eqb_ii, List.any_nil, Bool.or_false]
  rfl
theorem g1_ok {b : Bool} (h : PV P b) : g1 a (sl3 P U W o) μ = .ok (!b) μ := by
  cases h with
  | int i hi =>
    have h2 : ¬ (2 = i) := by omega
    have h3 : ¬ (3 = i) := by omega
    have e := in23 μ i
    simp [-inD_lst, isiD, isT, D.tyS, kb_int, kb_ib, e, h2, h3]
  | two =>
    have e := in23 μ 2
    simp [-inD_lst, isiD, isT, D.tyS, kb_int, kb_ib, e]
  | three =>
    have e := in23 μ 3
    simp [-inD_lst, isiD, isT, D.tyS, kb_int, kb_ib, e]
  | _ => simp [isiD, isT, D.tyS, kb_int, kb_ib, kb_in, kb_is, kb_iT, kb_il, kb_bb, kb_nb, kb_strb, kb_Tb, kb_lb]
theorem g2_ok {f : Option Str} (h : RF U f) : g2 a (sl3 P U W o) μ = match f with
    | none => .nx (sl3 P U W o) μ
    | some p => .rt (.tup [.str "rule", .str p]) μ := by
  have e := flt_any a μ h
  cases f <;> simp [e, optD, isNotN]
theorem g3_ok : g3 a (sl3 P U W o) μ = .nx (sl3 P U W (some (.lst (W6.map D.str)))) μ := by
  simp [W6]
theorem g4a_ok (b : Bool) (h : isiD (.ty "tuple") (isT "tuple") [W, .vv (.ty "tuple")] μ = .ok (.bl b) μ) : g4a a (sl3 P U W o) μ = .ok (!b) μ := by
  simp [h]
theorem VOk.okd {d : D} (h : VOk d) (n : Nat) : d.okd (n + 2) = true := by
  cases h <;> simp_all [D.okd, okdL]
theorem okdL_vok {n : Nat} : ∀ {ds : List D}, (∀ d ∈ ds, VOk d) → okdL (n + 2) ds = true
  | [], _ => by simp [okdL]
  | d :: ds, h => by rw [okdL, (h d List.mem_cons_self).okd n, okdL_vok fun e he => h e (List.mem_cons_of_mem _ he)]; rfl
theorem g4b_ok (ds : List D) (h : ∀ d ∈ ds, VOk d) : g4b a (sl3 P U (.tup ds) (some (.lst (W6.map D.str)))) μ = .ok (!eqbL ((W6.filter fun w => ds.any fun z => z.eqb (.str w)).map D.str) ds) μ := by
  have c := comp_t (t := .nm 2) (vs := [2]) (ft := rT (rBin (inD false) (rVar 2) (rBin getD (rVar 0) (rC (.int 2))))) (fe := rVar 2) (δ := sl3 P U (.tup ds) (some (.lst (W6.map D.str)))) (μ := μ) D.str (fun w => ds.any fun z => z.eqb (.str w)) D.str W6 [] (by decide) fun w hw => by
    refine ⟨_, rfl, ?_, fun _ => rfl⟩
    have o1 : (D.str w).okd 60 = true := by rw [D.okd]; exact w6_ok w hw
    have o2 : okdL 60 ds = true := okdL_vok (n := 58) h
    have : inD false (.str w) (.tup ds) μ = .ok (.bl (ds.any fun z => z.eqb (.str w))) μ := by rw [inD_tup, o1, o2]; rfl
    simp [-inD_tup, wipeD, this]
  rw [List.nil_append] at c
  have n : neD (.lst ((W6.filter fun w => ds.any fun z => z.eqb (.str w)).map D.str)) (.lst ds) μ = .ok (.bl (!eqbL ((W6.filter fun w => ds.any fun z => z.eqb (.str w)).map D.str) ds)) μ := by
    unfold neD
    have e1 : (D.lst ((W6.filter fun w => ds.any fun z => z.eqb (.str w)).map D.str)).okd 60 = true := by rw [D.okd]; exact okd_strs 59 _ (fw_ok _)
    have e2 : (D.lst ds).okd 60 = true := by rw [D.okd]; exact okdL_vok (n := 57) h
    simp only [vw_lst, e1, e2, Bool.and_self, if_true]
    rw [D.eqb]
  unfold g4b
  rw [s_rT, s_rBin, s_rLc]
  have : rItems (rVar 1) (sl3 P U (.tup ds) (some (.lst (W6.map D.str)))) μ = .ok (W6.map D.str) μ := rfl
  rw [this]
  simp only [R.ok_bind, List.map_cons, List.map_nil]
  rw [c]
  have e2 : rCB (listD false) (rCons (rBin getD (rVar 0) (rC (.int 2))) rNil) (sl3 P U (.tup ds) (some (.lst (W6.map D.str)))) μ = .ok (.lst ds) μ := by simp
  simp only [R.ok_bind]
  rw [e2]
  simp only [R.ok_bind]
  rw [n]
  rfl
end
theorem g4_ok (a : Ad) (P U : D) {W : D} (μ : List Ob) {bw : Bool} (h : WV W bw) : (rOrT (g4a a) (g4b a)) (sl3 P U W (some (.lst (W6.map D.str)))) μ = .ok (!bw) μ := by
  have non : ∀ (W : D) (T : String), W.tyS = some T → kitB T "tuple" = some false → W.view μ = W → (rOrT (g4a a) (g4b a)) (sl3 P U W (some (.lst (W6.map D.str)))) μ = .ok true μ := fun W T ht hk hv => by
    have e := g4a_ok a P U W (some (.lst (W6.map D.str))) μ false (by simp [isiD, isT, hv, ht, hk])
    rw [s_rOrT, show g4a a (sl3 P U W (some (.lst (W6.map D.str)))) μ = .ok true μ from e]
    rfl
  have tup : ∀ (ds : List D) (b : Bool), (∀ d ∈ ds, VOk d) → (!eqbL ((W6.filter fun w => ds.any fun z => z.eqb (.str w)).map D.str) ds) = b → (rOrT (g4a a) (g4b a)) (sl3 P U (.tup ds) (some (.lst (W6.map D.str)))) μ = .ok b μ := fun ds b hd hb => by
    have e := g4a_ok a P U (.tup ds) (some (.lst (W6.map D.str))) μ true (by simp [isiD, isT, D.tyS, kb_tup])
    rw [s_rOrT, show g4a a (sl3 P U (.tup ds) (some (.lst (W6.map D.str)))) μ = .ok false μ from e]
    have e2 := g4b_ok a P U μ ds hd
    rw [hb] at e2
    exact e2
  cases h with
  | good q =>
    refine tup _ _ (strs_vok (fw_ok q)) ?_
    have e : (W6.filter fun w => ((wordsL q).map D.str).any fun z => z.eqb (.str w)) = wordsL q := by
      have : (fun w => ((wordsL q).map D.str).any fun z => z.eqb (.str w)) = fun w => decide (w ∈ wordsL q) := funext fun w => any_str _ w
      rw [this]
      exact filt_self (q := q) rfl
    rw [e, eqbL_strs]
    simp
  | odd d hd =>
    simp only [wOdd, List.mem_cons, List.not_mem_nil, or_false] at hd
    rcases hd with rfl | rfl | rfl | rfl | rfl | rfl | rfl | rfl
    · exact non _ "NoneType" rfl kb_ntup rfl
    · exact non _ "list" rfl kb_ltup rfl
    · exact tup _ _ (strs_vok (ws := ["pause", "lose"]) (by decide +kernel)) (by decide +kernel)
    · exact tup _ _ (strs_vok (ws := ["lose", "lose"]) (by decide +kernel)) (by decide +kernel)
    · exact tup _ _ (strs_vok (ws := ["come"]) (by decide +kernel)) (by decide +kernel)
    · exact non _ "str" rfl kb_stup rfl
    · refine tup _ _ (fun d hd => ?_) (by decide +kernel)
      simp only [List.mem_cons, List.not_mem_nil, or_false] at hd
      rcases hd with rfl | rfl
      · exact .str _ (ok5 _ (by simp))
      · exact .int 5
    · exact tup _ _ (strs_vok (ws := ["go"]) (by decide +kernel)) (by decide +kernel)
def fltD : Option Flt → D
  | none => .non
  | some t => t.d
theorem fltD_sc (t : Option Flt) (n : Nat) : (fltD t).sc n = true := by
  cases t with
  | none => simp [fltD, D.sc]
  | some t => cases t <;> simp [fltD, Flt.d, D.sc, scL]
theorem fault_ok (a : Ad) {P U W : D} {b bw : Bool} {f : Option Str} (μ : List Ob) (hP : PV P b) (hU : RF U f) (hW : WV W bw) : ct__law_fault a [.lst [P, U, W]] μ = .ok (fltD (fltOf b f bw)) μ := by
  refine pu_rt ⟨[], ?_⟩ (fltD_sc _ 0)
  rw [r_fau, List.append_nil]
  show rSeq _ _ (sl3 P U W none) μ = _
  rw [s_rSeq, s_rIfS, g1_ok a P U W none μ hP]
  cases b with
  | false => simp [fltOf, fltD, Flt.d]
  | true =>
    simp only [Bool.not_true, R.ok_st]
    rw [s_rSeq, g2_ok a P U W none μ hU]
    cases f with
    | some p => simp [fltOf, fltD, Flt.d]
    | none =>
      simp only
      rw [s_rSeq, g3_ok a P U W none μ]
      simp only
      rw [s_rSeq, s_rIfS, g4_ok a P U μ hW]
      cases bw <;> simp [fltOf, fltD, Flt.d]
end
end LX

namespace LX
open PySem L2 DL
noncomputable section
theorem lku1 (a : Ad) (x y z : Bool) : [(a.kInvalidPrices, x), (a.kInvalidRule, y), (a.kInvalidWords, z)].lookup a.kInvalidPrices = some x := by
  rw [List.lookup_cons_self]
theorem lku2 (a : Ad) (x y z : Bool) : [(a.kInvalidPrices, x), (a.kInvalidRule, y), (a.kInvalidWords, z)].lookup a.kInvalidRule = some y := by
  have h : (a.kInvalidRule == a.kInvalidPrices) = false := beq_eq_false_iff_ne.mpr a.ne_InvalidPrices_InvalidRule.symm
  rw [List.lookup_cons, h]
  simp only
  rw [List.lookup_cons_self]
theorem lku3 (a : Ad) (x y z : Bool) : [(a.kInvalidPrices, x), (a.kInvalidRule, y), (a.kInvalidWords, z)].lookup a.kInvalidWords = some z := by
  have h : (a.kInvalidWords == a.kInvalidPrices) = false := beq_eq_false_iff_ne.mpr a.ne_InvalidPrices_InvalidWords.symm
  have h2 : (a.kInvalidWords == a.kInvalidRule) = false := beq_eq_false_iff_ne.mpr a.ne_InvalidRule_InvalidWords.symm
  rw [List.lookup_cons, h]
  simp only
  rw [List.lookup_cons, h2]
  simp only
  rw [List.lookup_cons_self]
abbrev hds (a : Ad) : List Hd := [⟨mOf [(a.kInvalidPrices, true), (a.kInvalidRule, false), (a.kInvalidWords, false)], some 5, (sSet 4 (gIs (okOf a.kInvalidPrices) (gC (.str "prices"))))⟩, ⟨mOf [(a.kInvalidPrices, false), (a.kInvalidRule, true), (a.kInvalidWords, false)], some 5, (sSet 4 (gTup2 (gC (.str "rule")) (gFld a.kInvalidRule "part")))⟩, ⟨mOf [(a.kInvalidPrices, false), (a.kInvalidRule, false), (a.kInvalidWords, true)], none, (sSet 4 (gC (.str "words")))⟩]
theorem handle_ok (a : Ad) (t : Flt) (b0 b1 b2 b3 b4 : Option D) (μ : List Ob) : handle (hds a) (t.x a) [b0, b1, b2, b3, b4, none] μ = .nx [b0, b1, b2, b3, some t.d, none] μ := by
  cases t with
  | prices => simp [Flt.x, Flt.d, xp, handle, mOf, lku1, unS, sSet, gIs, okOf, gC]
  | rule p => simp [Flt.x, Flt.d, xr, handle, mOf, lku2, unS, sSet, gTup2, gFld, gC, lookD]
  | words => simp [Flt.x, Flt.d, xw, handle, mOf, lku3, unS, sSet, gC]
abbrev tRow (a : Ad) : RE := rIf (rT (rBin isN (rVar 0) (rC .non))) (rCall 1 (ct__law_built a) (rCons (rVar 1) rNil)) (rMeth a.kBook "changed" 2 (cu_Book_changed a) (rVar 0) (rCons (rVar 2) (rCons (rVar 3) rNil)))
theorem r_try (a : Ad) : r_law_tried a = rSeq (rSet 4 (rC .non)) (rSeq (rTry (rSet 4 (tRow a)) (hds a)) (rRet (rVar 4))) := rfl
theorem tried_exc (a : Ad) {x0 x1 x2 x3 : D} (t : Flt) (μ : List Ob) (h : tRow a [some x0, some x1, some x2, some x3, some .non, none] μ = .exc (t.x a) μ) : ct__law_tried a [x0, x1, x2, x3] μ = .ok t.d μ := by
  refine pu_rt ⟨[], ?_⟩ (fltD_sc (some t) 0)
  rw [r_try, List.append_nil]
  show rSeq _ _ [some x0, some x1, some x2, some x3, none, none] μ = _
  have e : rSet 4 (tRow a) [some x0, some x1, some x2, some x3, some .non, none] μ = .exc (t.x a) [some x0, some x1, some x2, some x3, some .non, none] μ := by
    rw [s_rSet, h]
    rfl
  have e2 : rTry (rSet 4 (tRow a)) (hds a) [some x0, some x1, some x2, some x3, some .non, none] μ = .nx [some x0, some x1, some x2, some x3, some t.d, none] μ := by
    unfold rTry
    rw [e]
    exact handle_ok a t _ _ _ _ _ μ
  rw [s_rSeq]
  show rSeq _ _ [some x0, some x1, some x2, some x3, some .non, none] μ = _
  rw [s_rSeq, e2]
  rfl
theorem tried_ok (a : Ad) {x0 x1 x2 x3 d : D} (μ : List Ob) (h : tRow a [some x0, some x1, some x2, some x3, some .non, none] μ = .ok d μ) (hd : d.sc 0 = true) : ct__law_tried a [x0, x1, x2, x3] μ = .ok d μ := by
  refine pu_rt ⟨[], ?_⟩ hd
  rw [r_try, List.append_nil]
  show rSeq _ _ [some x0, some x1, some x2, some x3, none, none] μ = _
  have e : rSet 4 (tRow a) [some x0, some x1, some x2, some x3, some .non, none] μ = .nx [some x0, some x1, some x2, some x3, some d, none] μ := by
    rw [s_rSet, h]
    rfl
  have e2 : rTry (rSet 4 (tRow a)) (hds a) [some x0, some x1, some x2, some x3, some .non, none] μ = .nx [some x0, some x1, some x2, some x3, some d, none] μ := by
    unfold rTry
    rw [e]
  rw [s_rSeq]
  show rSeq _ _ [some x0, some x1, some x2, some x3, some .non, none] μ = _
  rw [s_rSeq, e2]
  rfl
abbrev bArgs : RA := rCons (rBin getD (rVar 0) (rC (.int 0))) (rCons (rBin getD (rVar 0) (rC (.int 1))) (rCons (rBin getD (rVar 0) (rC (.int 2))) rNil))
theorem bArgs_ok (P U W : D) (μ : List Ob) : bArgs [some (.lst [P, U, W])] μ = .ok [P, U, W] μ := by
  simp
theorem built_no (a : Ad) {P U W : D} {b bw : Bool} {f : Option Str} {t : Flt} (μ : List Ob) (hP : PV P b) (hU : RF U f) (hW : WV W bw) (h : fltOf b f bw = some t) : ct__law_built a [.lst [P, U, W]] μ = .exc (t.x a) μ := by
  refine pu_ex ⟨[some (.lst [P, U, W])], [.ins a.kBook [] []], ?_⟩ (t.sc a 0)
  show rRet (rMakeX a.kBook 3 (cm_Book a) bArgs) [some (.lst [P, U, W])] μ = _
  have e := make_no a (δ := [some (.lst [P, U, W])]) hP hU hW h (bArgs_ok P U W μ)
  rw [s_rRet, e]
  rfl
theorem sc_book (a : Ad) (p : Int) (r : Rl) (q : Str → Bool) (n : Nat) : (bookD a p (ruleD r) (wordsD q)).sc n = true := by
  simp [bookD, ruleD, wordsD, D.sc, scL, sc_strs]
theorem built_ok (a : Ad) {r : Rl} {p : Int} (q : Str → Bool) (μ : List Ob) (Q : RlOk r) (hp : 2 ≤ p ∧ p ≤ 3) : ct__law_built a [.lst [.int p, ruleD r, wordsD q]] μ = .ok (bookD a p (ruleD r) (wordsD q)) μ := by
  refine pu_rt ⟨[.dead], ?_⟩ (sc_book a p r q 0)
  show rRet (rMakeX a.kBook 3 (cm_Book a) bArgs) [some (.lst [.int p, ruleD r, wordsD q])] μ = _
  have e := make_ok a (δ := [some (.lst [.int p, ruleD r, wordsD q])]) (fs := bArgs) Q hp (bArgs_ok _ _ _ μ)
  rw [s_rRet, e]
  rfl
theorem tried_no (a : Ad) {P U W : D} {b bw : Bool} {f : Option Str} {t : Flt} (μ : List Ob) (hP : PV P b) (hU : RF U f) (hW : WV W bw) (h : fltOf b f bw = some t) : ct__law_tried a [.non, .lst [P, U, W], .non, .non] μ = .ok t.d μ := by
  refine tried_exc a t μ ?_
  have e := built_no a μ hP hU hW h
  unfold tRow
  rw [s_rIf]
  simp [isN, e]
theorem tried_yes (a : Ad) {r : Rl} {p : Int} (q : Str → Bool) (μ : List Ob) (Q : RlOk r) (hp : 2 ≤ p ∧ p ≤ 3) : ct__law_tried a [.non, .lst [.int p, ruleD r, wordsD q], .non, .non] μ = .ok (bookD a p (ruleD r) (wordsD q)) μ := by
  refine tried_ok a μ ?_ (sc_book a p r q 0)
  have e := built_ok a q μ Q hp
  unfold tRow
  rw [s_rIf]
  simp [isN, e]
end
end LX

namespace LX
open PySem L2 DL
noncomputable section
/-! ### alike: a value and itself -/
def atomB : D → Bool
  | .non => true
  | .bl _ => true
  | .int _ => true
  | .str x => PyData.strOk x
  | _ => false
/-- plain data, n deep -/
def Pl : Nat → D → Prop
  | 0, d => atomB d = true
  | n + 1, d => atomB d = true ∨ (∃ xs : List D, (d = .tup xs ∨ d = .lst xs) ∧ xs.length < 1000000 ∧ ∀ x ∈ xs, Pl n x) ∨ ∃ m r, n = m + 1 ∧ RlOk r ∧ d = ruleD r
theorem Pl.up : ∀ {n : Nat} {d : D}, Pl n d → Pl (n + 1) d
  | 0, d, h => .inl h
  | n + 1, d, h => by
    rcases h with h | ⟨xs, h, l, m⟩ | ⟨m, r, rfl, h1, h2⟩
    · exact .inl h
    · exact .inr (.inl ⟨xs, h, l, fun x hx => (m x hx).up⟩)
    · exact .inr (.inr ⟨m + 1, r, rfl, h1, h2⟩)
theorem ka_tt : kitB "tuple" "tuple" = some true := by decide +kernel
theorem ka_ll : kitB "list" "list" = some true := by decide +kernel
theorem ka_lt : kitB "list" "tuple" = some false := by decide +kernel
theorem ka_tl : kitB "tuple" "list" = some false := by decide +kernel
theorem ka_td : kitB "tuple" "dict" = some false := by decide +kernel
theorem ka_ld : kitB "list" "dict" = some false := by decide +kernel
theorem ka_id : kitB "int" "dict" = some false := by decide +kernel
theorem ka_sd : kitB "str" "dict" = some false := by decide +kernel
theorem ka_bd : kitB "bool" "dict" = some false := by decide +kernel
theorem ka_nd : kitB "NoneType" "dict" = some false := by decide +kernel
theorem ka_it : kitB "int" "tuple" = some false := by decide +kernel
theorem ka_st : kitB "str" "tuple" = some false := by decide +kernel
theorem ka_bt : kitB "bool" "tuple" = some false := by decide +kernel
theorem ka_nt : kitB "NoneType" "tuple" = some false := by decide +kernel
theorem ka_il : kitB "int" "list" = some false := by decide +kernel
theorem ka_sl : kitB "str" "list" = some false := by decide +kernel
theorem ka_bl : kitB "bool" "list" = some false := by decide +kernel
theorem ka_nl : kitB "NoneType" "list" = some false := by decide +kernel
theorem ka_is : kitB "int" "str" = some false := by decide +kernel
theorem ka_bs : kitB "bool" "str" = some false := by decide +kernel
theorem ka_ns : kitB "NoneType" "str" = some false := by decide +kernel
theorem ka_bi : kitB "bool" "int" = some true := by decide +kernel
theorem ka_bb : kitB "bool" "bool" = some true := by decide +kernel
theorem eq_nn (μ : List Ob) : eqD .non .non μ = .ok (.bl true) μ := by simp [eqD, D.okd, D.eqb]
theorem eq_ss {x : Str} (h : PyData.strOk x = true) (μ : List Ob) : eqD (.str x) (.str x) μ = .ok (.bl true) μ := by rw [eq_strs h h]; simp
theorem eq_nl (μ : List Ob) : eqD (.lst []) (.lst []) μ = .ok (.bl true) μ := by simp [eqD, D.okd, okdL, D.eqb, eqbL]
theorem ne_bl (x : Bool) (μ : List Ob) : neD (.bl x) (.bl x) μ = .ok (.bl false) μ := by cases x <;> simp [neD, D.okd, D.eqb]
theorem eq_bls (x y : Bool) {μ : List Ob} : eqD (.bl x) (.bl y) μ = .ok (.bl (x == y)) μ := by cases x <;> cases y <;> simp [eqD, D.okd, D.eqb]
theorem eqG_of {d e : D} {μ : List Ob} {b : Bool} (h : eqD d e μ = .ok (.bl b) μ) : eqG d e μ = .ok (.bl b) μ := by
  unfold eqG
  rw [h]
theorem gq_nn (μ : List Ob) : eqG .non .non μ = .ok (.bl true) μ := eqG_of (eq_nn μ)
theorem gq_bb (b : Bool) (μ : List Ob) : eqG (.bl b) (.bl b) μ = .ok (.bl true) μ := eqG_of (by rw [eq_bls]; simp)
theorem gq_ii (i : Int) (μ : List Ob) : eqG (.int i) (.int i) μ = .ok (.bl true) μ := eqG_of (by rw [eq_ints]; simp)
theorem gq_ss {x : Str} (h : PyData.strOk x = true) (μ : List Ob) : eqG (.str x) (.str x) μ = .ok (.bl true) μ := eqG_of (eq_ss h μ)
theorem alike_atom (a : Ad) (rec : Ct) {d : D} (h : atomB d = true) (μ : List Ob) : ctT 1 (r_law_alike a rec) [d, d] μ = .ok (.bl true) μ := by
  refine pu_rt ⟨[], ?_⟩ (by simp [D.sc])
  rw [List.append_nil]
  unfold r_law_alike
  cases d with
  | non => simp [isiD, isT, D.tyS, ka_nd, ka_nt, ka_nl, ka_ns, rIsTs, isT2, isN, gq_nn, eq_bls]
  | bl b => simp [isiD, isT, D.tyS, ka_bd, ka_bt, ka_bl, ka_bs, ka_bi, ka_bb, rIsTs, isT2, isN, eq_bls, gq_bb]
  | int i => simp [isiD, isT, D.tyS, ka_id, ka_it, ka_il, ka_is, kb_int, kb_ib, rIsTs, isT2, isN, eq_bls, gq_ii]
  | str x => simp [isiD, isT, D.tyS, ka_sd, ka_st, ka_sl, kb_str, rIsTs, isT2, isN, eq_bls, gq_ss h]
  | _ => cases h
theorem alike_rng (a : Ad) (rec : Ct) (x y : D) (xs : List D) (hx : x = .tup xs ∨ x = .lst xs) (n : Nat) (hn : n = xs.length) (hl : xs.length < 1000000) (μ : List Ob) (h : ∀ d ∈ xs, rec [d, d] μ = .ok (.bl true) μ) (o : Option D) :
    compL (.nm 2) [2] (rNotT (rT (rCall 2 rec (rCons (rBin getD (rVar 0) (rVar 2)) (rCons (rBin getD (rVar 1) (rVar 2)) rNil))))) (rVar 2) ((List.range n).map fun k => D.int (k : Nat)) [some x, some x, o] μ [] = .ok [] μ := by
  subst hn
  have q := comp_t (t := .nm 2) (vs := [2]) (ft := rNotT (rT (rCall 2 rec (rCons (rBin getD (rVar 0) (rVar 2)) (rCons (rBin getD (rVar 1) (rVar 2)) rNil))))) (fe := rVar 2) (δ := [some x, some x, o]) (μ := μ) (fun k : Nat => D.int (k : Nat)) (fun _ => false) (fun _ => D.non) (List.range xs.length) [] (by rw [List.length_range, List.length_nil]; omega) fun k hk => by
    have hk' : k < xs.length := List.mem_range.mp hk
    have g : ∀ μ, getV x (.int (k : Nat)) μ = .ok xs[k] μ := fun μ => by
      have e := atI_lt hk'
      rcases hx with rfl | rfl
      · rw [getV_tup, e]; rfl
      · rw [getV_lst, e]; rfl
    have v : x.view μ = x := by rcases hx with rfl | rfl <;> rfl
    have r1 := h xs[k] (List.getElem_mem hk')
    refine ⟨[some x, some x, some (.int (k : Nat))], rfl, ?_, fun z => nomatch z⟩
    simp [-getV_tup, -getV_lst, v, g, r1]
  have ft : (List.range xs.length).filter (fun _ => false) = [] := List.filter_eq_nil_iff.mpr fun _ _ z => nomatch z
  rw [ft, List.nil_append, List.map_nil] at q
  exact q
theorem alike_seq (a : Ad) (rec : Ct) {d : D} {xs : List D} (hx : d = .tup xs ∨ d = .lst xs) (hl : xs.length < 1000000) (μ : List Ob) (h : ∀ d ∈ xs, rec [d, d] μ = .ok (.bl true) μ) : ctT 1 (r_law_alike a rec) [d, d] μ = .ok (.bl true) μ := by
  refine pu_rt ⟨[], ?_⟩ (by simp [D.sc])
  rw [List.append_nil]
  have cl := alike_rng a rec d d xs hx xs.length rfl hl μ h none
  have rg : rRange1 (rCons (rCB lenD (rCons (rVar 1) rNil)) rNil) [some d, some d, none] μ = .ok ((List.range xs.length).map fun k => D.int (k : Nat)) μ := by
    refine range1_ok ?_ hl
    rcases hx with rfl | rfl <;> simp
  have lc : rLc (rRange1 (rCons (rCB lenD (rCons (rVar 1) rNil)) rNil)) (.nm 2) (([("_law_k", 2)] : List (Str × Nat)).map (·.2)) (rNotT (rT (rCall 2 rec (rCons (rBin getD (rVar 0) (rVar 2)) (rCons (rBin getD (rVar 1) (rVar 2)) rNil))))) (rVar 2) [some d, some d, none] μ = .ok (.lst []) μ := by
    unfold rLc
    rw [rg, R.ok_bind]
    have cl' : compL (.nm 2) (([("_law_k", 2)] : List (Str × Nat)).map (·.2)) (rNotT (rT (rCall 2 rec (rCons (rBin getD (rVar 0) (rVar 2)) (rCons (rBin getD (rVar 1) (rVar 2)) rNil))))) (rVar 2) ((List.range xs.length).map fun k => D.int (k : Nat)) [some d, some d, none] μ [] = _ := cl
    rw [cl', R.ok_bind]
  have last : (rRet (rBin eqD (rLc (rRange1 (rCons (rCB lenD (rCons (rVar 1) rNil)) rNil)) (.nm 2) (([("_law_k", 2)] : List (Str × Nat)).map (·.2)) (rNotT (rT (rCall 2 rec (rCons (rBin getD (rVar 0) (rVar 2)) (rCons (rBin getD (rVar 1) (rVar 2)) rNil))))) (rVar 2)) (rLst rNil))) [some d, some d, none] μ = .rt (.bl true) μ := by
    rw [s_rRet, s_rBin, lc]
    simp [eq_nl]
  have e0 : ([d, d].map some ++ List.replicate 1 none : Sl) = [some d, some d, none] := rfl
  unfold r_law_alike
  rw [e0, s_rSeq]
  have t1 : (rIfS (rT (rCB (isiD (.ty "dict") (isT "dict")) (rCons (rVar 1) (rCons (rC (.vv (.ty "dict"))) rNil)))) (rRet (rAndV (rCB (isiD (.ty "dict") (isT "dict")) (rCons (rVar 0) (rCons (rC (.vv (.ty "dict"))) rNil))) (rAndV (rCall 2 rec (rCons (rCB (listD false) (rCons (rVar 0) rNil)) (rCons (rCB (listD false) (rCons (rVar 1) rNil)) rNil))) (rBin eqG (rVar 0) (rVar 1))))) (fun δ μ => .nx δ μ)) [some d, some d, none] μ = .nx [some d, some d, none] μ := by
    rcases hx with rfl | rfl
    · simp [isiD, isT, D.tyS, ka_td]
    · simp [isiD, isT, D.tyS, ka_ld]
  rw [t1]
  simp only
  rw [s_rSeq, s_rIfS]
  have t2 : rT (rIsTs (isT2 "tuple" "list") (rVar 1)) [some d, some d, none] μ = .ok true μ := by
    rcases hx with rfl | rfl
    · simp [isT2, isT, D.tyS, ka_tt, rIsTs]
    · simp [isT2, isT, D.tyS, ka_lt, ka_ll, rIsTs]
  rw [t2, R.ok_st]
  simp only
  rw [s_rSeq]
  have t3 : (rIfS (rOrT (rNotT (rT (rIsTs (isT2 "tuple" "list") (rVar 0)))) (rT (rBin neD (rCB (isiD (.ty "list") (isT "list")) (rCons (rVar 0) (rCons (rC (.vv (.ty "list"))) rNil))) (rCB (isiD (.ty "list") (isT "list")) (rCons (rVar 1) (rCons (rC (.vv (.ty "list"))) rNil)))))) (rRet (rC (.bl false))) (fun δ μ => .nx δ μ)) [some d, some d, none] μ = .nx [some d, some d, none] μ := by
    rcases hx with rfl | rfl
    · simp [isT2, isT, D.tyS, ka_tt, ka_tl, rIsTs, isiD, ne_bl]
    · simp [isT2, isT, D.tyS, ka_lt, ka_ll, rIsTs, isiD, ne_bl]
  rw [t3]
  simp only
  rw [s_rSeq]
  have t4 : (rIfS (rT (rBin neD (rCB lenD (rCons (rVar 0) rNil)) (rCB lenD (rCons (rVar 1) rNil)))) (rRet (rC (.bl false))) (fun δ μ => .nx δ μ)) [some d, some d, none] μ = .nx [some d, some d, none] μ := by
    rcases hx with rfl | rfl
    · simp [ne_ints]
    · simp [ne_ints]
  rw [t4]
  simp only
  rw [last]
/-! ### dicts -/
theorem eq0_ss {x y : Str} (h : PyData.strOk x = true) (h' : PyData.strOk y = true) (μ : List Ob) : eq0 μ (.str x) (.str y) = some (decide (x = y)) := by
  unfold eq0
  have e1 : (D.str x).okd 50 = true := by rw [D.okd]; exact h
  have e2 : (D.str y).okd 50 = true := by rw [D.okd]; exact h'
  simp only [vw_str, e1, e2, Bool.and_self, if_true]
  rw [D.eqb]
  congr 1
structure RlS (r : Rl) : Prop where
  c : PyData.strOk r.c = true
  e : PyData.strOk r.e = true
  l : PyData.strOk r.l = true
  m : PyData.strOk r.m = true
  s : PyData.strOk r.s = true
  t : PyData.strOk r.t = true
theorem RlOk.str {r : Rl} (h : RlOk r) : RlS r := by
  have p : ∀ ps : Str × List Str, ps ∈ PWs → ∀ x ∈ ps.2, PyData.strOk x = true := fun ps hp => (pw_ok ps hp).2
  exact ⟨p ("counts", ["comes", "fits"]) (by simp [PWs]) _ h.c, p ("evening", ["looks", "sends"]) (by simp [PWs]) _ h.e, p ("lost", ["again", "noted"]) (by simp [PWs]) _ h.l,
    p ("remembers", ["number", "price", "thing"]) (by simp [PWs]) _ h.m, p ("search", ["forgets", "keeps"]) (by simp [PWs]) _ h.s, p ("tells", ["evening", "now"]) (by simp [PWs]) _ h.t⟩
def rlEq (r q : Rl) : Bool := decide (r.c = q.c) && (decide (r.e = q.e) && (decide (r.l = q.l) && (decide (r.m = q.m) && (decide (r.s = q.s) && decide (r.t = q.t)))))
theorem rlEq_self (r : Rl) : rlEq r r = true := by simp [rlEq]
theorem dct_rules {r q : Rl} (h : RlS r) (h' : RlS q) (μ : List Ob) : dctX μ (ruleD r) (ruleD q) = some (rlEq r q) := by
  unfold ruleD
  show hitO (eq0 μ) K6 [.str q.c, .str q.e, .str q.l, .str q.m, .str q.s, .str q.t] K6 [.str r.c, .str r.e, .str r.l, .str r.m, .str r.s, .str r.t] = _
  have z : ∀ (k : Key) (ks : List Key) (x y : Str) (xs ys : List D) (o : Option Bool), PyData.strOk x = true → PyData.strOk y = true → lookD K6 ys k = some (.str y) → hitO (eq0 μ) K6 ys ks xs = o → hitO (eq0 μ) K6 ys (k :: ks) (.str x :: xs) = o.map (decide (x = y) && ·) := by
    intro k ks x y xs ys o hx hy hk ho
    rw [hitO, hk]
    simp only
    rw [eq0_ss hx hy, ho]
  have e6 : hitO (eq0 μ) K6 [.str q.c, .str q.e, .str q.l, .str q.m, .str q.s, .str q.t] [] [] = some true := rfl
  have e5 := z (.inr "tells") [] r.t q.t [] _ _ h.t h'.t (lk5 ..) e6
  have e4 := z (.inr "search") _ r.s q.s _ _ _ h.s h'.s (lk4 ..) e5
  have e3 := z (.inr "remembers") _ r.m q.m _ _ _ h.m h'.m (lk3 ..) e4
  have e2 := z (.inr "lost") _ r.l q.l _ _ _ h.l h'.l (lk2 ..) e3
  have e1 := z (.inr "evening") _ r.e q.e _ _ _ h.e h'.e (lk1 ..) e2
  have e0 := z (.inr "counts") _ r.c q.c _ _ _ h.c h'.c (lk0 ..) e1
  refine e0.trans ?_
  simp [rlEq]
theorem eq_dcts (r q : Rl) (μ : List Ob) : eqD (ruleD r) (ruleD q) μ = .bad := by
  unfold eqD
  have : (ruleD r).okd 60 = false := by simp [ruleD, D.okd]
  rw [show (ruleD r).view μ = ruleD r from rfl, this]
  rfl
theorem gq_dcts {r q : Rl} (h : RlS r) (h' : RlS q) (μ : List Ob) : eqG (ruleD r) (ruleD q) μ = .ok (.bl (rlEq r q)) μ := by
  unfold eqG
  rw [eq_dcts]
  simp only
  have : tupX μ ((ruleD r).view μ) ((ruleD q).view μ) = some (rlEq r q) := dct_rules h h' μ
  rw [this]
theorem alike_dct (a : Ad) (rec : Ct) {r : Rl} (h : RlOk r) (μ : List Ob) (hr : rec [.lst (KW.map D.str), .lst (KW.map D.str)] μ = .ok (.bl true) μ) : ctT 1 (r_law_alike a rec) [ruleD r, ruleD r] μ = .ok (.bl true) μ := by
  refine pu_rt ⟨[], ?_⟩ (by simp [D.sc])
  rw [List.append_nil]
  have g := gq_dcts h.str h.str μ
  rw [rlEq_self] at g
  have e1 : isiD (.ty "dict") (isT "dict") [ruleD r, .vv (.ty "dict")] μ = .ok (.bl true) μ := by simp [isiD, isT, ruleD, D.tyS, kb_dct]
  have e2 : listD false [ruleD r] μ = .ok (.lst (KW.map D.str)) μ := rfl
  unfold r_law_alike
  simp [-listD_eq, e1, e2, hr, g]
def al (a : Ad) : Nat → Ct
  | 0 => ctT 1 (r_law_alike a (fun _ _ => .bad))
  | n + 1 => ctT 1 (r_law_alike a (al a n))
theorem kw_atom : ∀ x ∈ KW.map D.str, atomB x = true := fun x hx => by
  obtain ⟨w, hw, rfl⟩ := List.mem_map.mp hx
  exact kw_ok w hw
theorem alike_pl (a : Ad) : ∀ (n : Nat) (d : D), Pl n d → ∀ μ, al a n [d, d] μ = .ok (.bl true) μ
  | 0, d, h, μ => alike_atom a _ h μ
  | n + 1, d, h, μ => by
    rcases h with h | ⟨xs, hx, hl, hm⟩ | ⟨m, r, rfl, h1, rfl⟩
    · exact alike_atom a _ h μ
    · exact alike_seq a _ hx hl μ fun x hx => alike_pl a n x (hm x hx) μ
    · exact alike_dct a _ h1 μ (alike_seq a _ (.inr rfl) (by decide) μ fun x hx => alike_pl a m x (by cases m; exact kw_atom x hx; exact .inl (kw_atom x hx)) μ)
theorem alike_ok (a : Ad) {d : D} (h : Pl 3 d) (μ : List Ob) : ct__law_alike a [d, d] μ = .ok (.bl true) μ := alike_pl a 3 d h μ
end
end LX

namespace LX
open PySem L2 DL
noncomputable section
theorem pick_mem (s : Src) {xs : List D} (h : 0 < xs.length) : (s.pick xs).1 ∈ xs := by
  obtain ⟨r0, r1⟩ := next_rng s (cap := xs.length) (by omega)
  have hl : (s.next xs.length).1.toNat < xs.length := by omega
  unfold Src.pick
  rw [List.getD_eq_getElem?_getD, List.getElem?_eq_getElem hl]
  exact List.getElem_mem hl
theorem draw_ok (a : Ad) (s : Src) (j : List Ob) : ∃ r q s', RlOk r ∧ ct__law_draw a [.loc 1] (src s ++ j) = .ok (.loc (2 + j.length + 1)) (src s' ++ (j ++ [.dct K6 (rl6 r), .lst [.int 2, .loc (2 + j.length), wordsD q]])) := by
  obtain ⟨r, s1, hr, e1⟩ := rule_ok a s j
  obtain ⟨q, s2, e2⟩ := words_ok a s1 (j ++ [.dct K6 (rl6 r)]) 3 (by decide) (by decide)
  refine ⟨r, q, s2, hr, ?_⟩
  unfold ct__law_draw ctOf r_law_draw
  simp [e1, e2, src_len]
  simp [src_l]
  omega
/-- the store while a row is drawn -/
def st (s : Src) (j : List Ob) (D0 : Ob) (P U W : D) (g : List Ob) : List Ob := src s ++ (j ++ D0 :: .lst [P, U, W] :: g)
theorem st_eq (s : Src) (j : List Ob) (D0 : Ob) (P U W : D) (g : List Ob) : st s j D0 P U W g = src s ++ (j ++ D0 :: .lst [P, U, W] :: g) := rfl
theorem st_len (s : Src) (j : List Ob) (D0 : Ob) (P U W : D) (g : List Ob) : (st s j D0 P U W g).length = 2 + j.length + 2 + g.length := by
  unfold st
  simp [src_l]
  omega
theorem st_at0 (s : Src) (j : List Ob) (D0 : Ob) (P U W : D) (g : List Ob) : (st s j D0 P U W g)[2 + j.length]? = some D0 := by
  unfold st
  rw [List.getElem?_append_right (by rw [src_l]; omega), List.getElem?_append_right (by rw [src_l]; omega), src_l]
  have : 2 + j.length - 2 - j.length = 0 := by omega
  rw [this]
  rfl
theorem st_at1 (s : Src) (j : List Ob) (D0 : Ob) (P U W : D) (g : List Ob) : (st s j D0 P U W g)[2 + j.length + 1]? = some (.lst [P, U, W]) := by
  unfold st
  rw [List.getElem?_append_right (by rw [src_l]; omega), List.getElem?_append_right (by rw [src_l]; omega), src_l]
  have : 2 + j.length + 1 - 2 - j.length = 1 := by omega
  rw [this]
  rfl
theorem st_atg (s : Src) (j : List Ob) (D0 : Ob) (P U W : D) (g : List Ob) (i : Nat) : (st s j D0 P U W g)[2 + j.length + 2 + i]? = g[i]? := by
  unfold st
  rw [List.getElem?_append_right (by rw [src_l]; omega), List.getElem?_append_right (by rw [src_l]; omega), src_l]
  have : 2 + j.length + 2 + i - 2 - j.length = i + 2 := by omega
  rw [this]
  rfl
theorem st_set0 (s : Src) (j : List Ob) (D0 D1 : Ob) (P U W : D) (g : List Ob) : (st s j D0 P U W g).set (2 + j.length) D1 = st s j D1 P U W g := by
  unfold st
  rw [List.set_append_right _ _ (by rw [src_l]; omega), src_l, List.set_append_right _ _ (by omega)]
  have : 2 + j.length - 2 - j.length = 0 := by omega
  rw [this]
  rfl
theorem st_set1 (s : Src) (j : List Ob) (D0 : Ob) (P U W P' U' W' : D) (g : List Ob) : (st s j D0 P U W g).set (2 + j.length + 1) (.lst [P', U', W']) = st s j D0 P' U' W' g := by
  unfold st
  rw [List.set_append_right _ _ (by rw [src_l]; omega), src_l, List.set_append_right _ _ (by omega)]
  have : 2 + j.length + 1 - 2 - j.length = 1 := by omega
  rw [this]
  rfl
theorem st_setg (s : Src) (j : List Ob) (D0 : Ob) (P U W : D) (g : List Ob) (i : Nat) (o : Ob) : (st s j D0 P U W g).set (2 + j.length + 2 + i) o = st s j D0 P U W (g.set i o) := by
  unfold st
  rw [List.set_append_right _ _ (by rw [src_l]; omega), src_l, List.set_append_right _ _ (by omega)]
  have : 2 + j.length + 2 + i - 2 - j.length = i + 2 := by omega
  rw [this]
  rfl
theorem st_app (s : Src) (j : List Ob) (D0 : Ob) (P U W : D) (g h : List Ob) : st s j D0 P U W g ++ h = st s j D0 P U W (g ++ h) := by
  unfold st
  simp
/-- what the rule of a row is, behind k turns -/
inductive RS0 (n0 : Nat) (D0 : Ob) (g : List Ob) (k : Nat) : D → Prop
  | odd (d : D) (h : d ∈ [D.non, .lst [], .str "rule", .int 5]) : RS0 n0 D0 g k d
  | orig (v : Str → D) (h : ∀ p ∈ KW, VOk (v p)) (e : D0 = .dct K6 (KW.map v)) : RS0 n0 D0 g k (.loc n0)
  | few (i : Nat) (ks : List Str) (xs : List D) (hi : g[i]? = some (.dct (ks.map Sum.inr) xs)) (h : ∀ k ∈ ks, k ∈ KW) (hl : ks.length ≤ k) (he : xs.length = ks.length) (hx : scL 0 xs = true) : RS0 n0 D0 g k (.loc (n0 + 2 + i))
section
variable (a : Ad) (s : Src) (j : List Ob) (D0 : Ob) (P U W : D) (g : List Ob) (o2 o3 o4 o5 o6 : Option D)
abbrev sl7 (n : Nat) (o2 o3 o4 o5 o6 : Option D) : Sl := [some (.loc 1), some (.loc n), o2, o3, o4, o5, o6]
theorem st_pick (xs : List D) (h0 : 0 < xs.length) (h1 : xs.length < 1073741824) (hs : scL (st s j D0 P U W g).length xs = true) : ct__law_pick a [.loc 1, .lst xs] (st s j D0 P U W g) = .ok (s.pick xs).1 (st (s.pick xs).2 j D0 P U W g) :=
  pick_ok a s (j ++ D0 :: .lst [P, U, W] :: g) xs h0 h1 hs
theorem st_next (cap : Int) (h0 : 0 < cap) (h1 : cap < 1073741824) : ct__law_next a [.loc 1, .int cap] (st s j D0 P U W g) = .ok (.int (s.next cap).1) (st (s.next cap).2 j D0 P U W g) :=
  next_ok a s (j ++ D0 :: .lst [P, U, W] :: g) cap h0 h1
theorem ix3 : ixN 3 0 = some 0 ∧ ixN 3 1 = some 1 ∧ ixN 3 2 = some 2 := ⟨rfl, rfl, rfl⟩
theorem put0 (d : D) : storeD (.loc (2 + j.length + 1)) (.int 0) d (st s j D0 P U W g) = .ok () (st s j D0 d U W g) := by
  unfold storeD
  simp only [st_at1]
  show (match ixN 3 0 with
    | some k => DL.R.ok () ((st s j D0 P U W g).set (2 + j.length + 1) (.lst ([P, U, W].set k d)))
    | none => .bad) = _
  rw [ix3.1]
  exact congrArg _ (st_set1 ..)
theorem put1 (d : D) : storeD (.loc (2 + j.length + 1)) (.int 1) d (st s j D0 P U W g) = .ok () (st s j D0 P d W g) := by
  unfold storeD
  simp only [st_at1]
  show (match ixN 3 1 with
    | some k => DL.R.ok () ((st s j D0 P U W g).set (2 + j.length + 1) (.lst ([P, U, W].set k d)))
    | none => .bad) = _
  rw [ix3.2.1]
  exact congrArg _ (st_set1 ..)
theorem put2 (d : D) : storeD (.loc (2 + j.length + 1)) (.int 2) d (st s j D0 P U W g) = .ok () (st s j D0 P U d g) := by
  unfold storeD
  simp only [st_at1]
  show (match ixN 3 2 with
    | some k => DL.R.ok () ((st s j D0 P U W g).set (2 + j.length + 1) (.lst ([P, U, W].set k d)))
    | none => .bad) = _
  rw [ix3.2.2]
  exact congrArg _ (st_set1 ..)
end
end
end LX

namespace LX
open PySem L2 DL
noncomputable section
def updV (v : Str → D) (n : Str) (d : D) : Str → D := fun p => if p = n then d else v p
theorem zip_map2 {ι α β γ : Type} (f : α → β → γ) (g : ι → α) (h : ι → β) : ∀ l : List ι, List.zipWith f (l.map g) (l.map h) = l.map fun x => f (g x) (h x)
  | [] => rfl
  | x :: l => by simp only [List.map_cons, List.zipWith_cons_cons, zip_map2 f g h l]
theorem has6 : ∀ n ∈ KW, hasK K6 (.inr n) = true := by decide +kernel
theorem k6_kw : K6 = KW.map (Sum.inr : Str → Key) := rfl
theorem put6 (v : Str → D) {n : Str} (h : n ∈ KW) (d : D) : putKs K6 (.inr n) = K6 ∧ putXs K6 (KW.map v) (.inr n) d = KW.map (updV v n d) := by
  unfold putKs putXs
  rw [if_pos (has6 n h), if_pos (has6 n h)]
  refine ⟨rfl, ?_⟩
  rw [k6_kw, zip_map2]
  refine List.map_congr_left fun p _ => ?_
  unfold updV
  by_cases e : p = n
  · subst e; rw [if_pos rfl, if_pos rfl]
  · rw [if_neg (fun z => e (Sum.inr.inj z)), if_neg e]
theorem updV_ok {v : Str → D} (h : ∀ p ∈ KW, VOk (v p)) (n : Str) {d : D} (hd : VOk d) : ∀ p ∈ KW, VOk (updV v n d p) := fun p hp => by
  unfold updV
  split
  · exact hd
  · exact h p hp
theorem sc_zip (k : Key) {d : D} (hd : d.sc 0 = true) : ∀ (ks : List Key) (xs : List D), scL 0 xs = true → scL 0 (List.zipWith (fun k' x => if k' = k then d else x) ks xs) = true
  | [], _, _ => by simp [scL]
  | _ :: _, [], _ => by simp [scL]
  | k' :: ks, x :: xs, h => by
    rw [scL, Bool.and_eq_true] at h
    rw [List.zipWith_cons_cons, scL, sc_zip k hd ks xs h.2]
    split
    · rw [hd]; rfl
    · rw [h.1]; rfl
theorem scL_snoc {n : Nat} {d : D} : ∀ {xs : List D}, scL n xs = true → d.sc n = true → scL n (xs ++ [d]) = true
  | [], _, h => by simp [scL, h]
  | x :: xs, hx, h => by
    rw [scL, Bool.and_eq_true] at hx
    rw [List.cons_append, scL, hx.1, scL_snoc hx.2 h]
    rfl
theorem few_put {ks : List Str} {xs : List D} {k : Nat} {n : Str} {d : D} (h : ∀ k ∈ ks, k ∈ KW) (hl : ks.length ≤ k) (he : xs.length = ks.length) (hx : scL 0 xs = true) (hn : n ∈ KW) (hd : d.sc 0 = true) :
    ∃ ks' : List Str, putKs (ks.map Sum.inr) (.inr n) = ks'.map Sum.inr ∧ (∀ k ∈ ks', k ∈ KW) ∧ ks'.length ≤ k + 1 ∧ (putXs (ks.map Sum.inr : List Key) xs (.inr n) d).length = ks'.length ∧ scL 0 (putXs (ks.map Sum.inr : List Key) xs (.inr n) d) = true := by
  unfold putKs putXs
  by_cases c : hasK (ks.map Sum.inr) (.inr n) = true
  · rw [if_pos c, if_pos c]
    exact ⟨ks, rfl, h, by omega, by rw [List.length_zipWith, List.length_map, he]; exact Nat.min_self _, sc_zip _ hd _ _ hx⟩
  · rw [if_neg c, if_neg c]
    refine ⟨ks ++ [n], by simp, fun x hx => ?_, by simp; omega, by simp; omega, scL_snoc (by assumption) hd⟩
    rcases List.mem_append.mp hx with hx | hx
    · exact h x hx
    · rw [List.mem_singleton.mp hx]; exact hn
theorem RS0.up {n0 : Nat} {D0 : Ob} {g : List Ob} {k : Nat} {U : D} (h : RS0 n0 D0 g k U) : RS0 n0 D0 g (k + 1) U := by
  cases h with
  | odd _ h => exact .odd _ h
  | orig v h e => exact .orig v h e
  | few i ks xs hi h hl he hx => exact .few i ks xs hi h (by omega) he hx
def pOdd : List D := [.int 0, .int 1, .int 4, .int (-2), .non, .bl true, .str "2", .tup [.int 2], .lst [.int 3]]
def vOdd : List D := [.str "fits", .str "now", .non, .bl true, .str "", .lst [.str "looks"], .str "thing", .int 0]
theorem pOdd_ok {d : D} (h : d ∈ pOdd) : PV d false := by
  simp only [pOdd, List.mem_cons, List.not_mem_nil, or_false] at h
  rcases h with rfl | rfl | rfl | rfl | rfl | rfl | rfl | rfl | rfl
  · exact .int 0 (by omega)
  · exact .int 1 (by omega)
  · exact .int 4 (by omega)
  · exact .int (-2) (by omega)
  · exact .non
  · exact .tru
  · exact .str
  · exact .tup
  · exact .lst
theorem okv : ∀ w ∈ (["fits", "now", "", "looks", "thing"] : List Str), PyData.strOk w = true := by decide +kernel
theorem vOdd_ok {d : D} (h : d ∈ vOdd) : VOk d := by
  simp only [vOdd, List.mem_cons, List.not_mem_nil, or_false] at h
  rcases h with rfl | rfl | rfl | rfl | rfl | rfl | rfl | rfl
  · exact .str _ (okv _ (by simp))
  · exact .str _ (okv _ (by simp))
  · exact .non
  · exact .bl true
  · exact .str _ (okv _ (by simp))
  · exact .lst _ (okv _ (by simp))
  · exact .str _ (okv _ (by simp))
  · exact .int 0
section
variable (a : Ad) (s : Src) (j : List Ob) (D0 : Ob) (P U W : D) (g : List Ob) (o2 o3 o4 o5 o6 : Option D)
abbrev nR : Nat := 2 + j.length + 1
abbrev z0 (a : Ad) : RS := rAsgD (gSt (rVar 1) (rC (.int 0))) (rCall 2 (ct__law_pick a) (rCons (rVar 0) (rCons (rLst (rCons (rC (.int 0)) (rCons (rC (.int 1)) (rCons (rC (.int 4)) (rCons (rC (.int (-2))) (rCons (rC .non) (rCons (rC (.bl true)) (rCons (rC (.str "2")) (rCons (rTup (rCons (rC (.int 2)) rNil)) (rCons (rLst (rCons (rC (.int 3)) rNil)) rNil)))))))))) rNil)))
abbrev z2 (a : Ad) : RS := rSeq (rSet 6 (rLst (rCons (rC .non) (rCons (rLst (rCons (rC (.str "lose")) rNil)) (rCons (rTup (rCons (rC (.str "pause")) (rCons (rC (.str "lose")) rNil))) (rCons (rTup (rCons (rC (.str "lose")) (rCons (rC (.str "lose")) rNil))) (rCons (rTup (rCons (rC (.str "come")) rNil)) rNil)))))))
    (rSeq (rSet 6 (rBin addD (rVar 6) (rLst (rCons (rC (.str "anew")) (rCons (rTup (rCons (rC (.str "anew")) (rCons (rC (.int 5)) rNil))) (rCons (rTup (rCons (rC (.str "go")) rNil)) rNil))))))
    (rAsgD (gSt (rVar 1) (rC (.int 2))) (rCall 2 (ct__law_pick a) (rCons (rVar 0) (rCons (rVar 6) rNil)))))
theorem z0_ok : z0 a (sl7 (nR j) o2 o3 o4 o5 o6) (st s j D0 P U W g) = .nx (sl7 (nR j) o2 o3 o4 o5 o6) (st (s.pick pOdd).2 j D0 (s.pick pOdd).1 U W g) := by
  have e := st_pick a s j D0 P U W g pOdd (by decide) (by decide) (by simp [pOdd, scL, D.sc])
  have p := put0 (s.pick pOdd).2 j D0 P U W g (s.pick pOdd).1
  have e' : ct__law_pick a [.loc 1, .lst [.int 0, .int 1, .int 4, .int (-2), .non, .bl true, .str "2", .tup [.int 2], .lst [.int 3]]] (st s j D0 P U W g) = _ := e
  simp [e', p]
theorem z2_ok : z2 a (sl7 (nR j) o2 o3 o4 o5 o6) (st s j D0 P U W g) = .nx (sl7 (nR j) o2 o3 o4 o5 (some (.lst wOdd))) (st (s.pick wOdd).2 j D0 P U (s.pick wOdd).1 g) := by
  have e := st_pick a s j D0 P U W g wOdd (by decide) (by decide) (by simp [wOdd, scL, D.sc])
  have p := put2 (s.pick wOdd).2 j D0 P U W g (s.pick wOdd).1
  have e' : ct__law_pick a [.loc 1, .lst [.non, .lst [.str "lose"], .tup [.str "pause", .str "lose"], .tup [.str "lose", .str "lose"], .tup [.str "come"], .str "anew", .tup [.str "anew", .int 5], .tup [.str "go"]]] (st s j D0 P U W g) = _ := e
  simp [e', p]
  rfl
end
end
end LX

namespace LX
open PySem L2 DL
noncomputable section
abbrev zPar (a : Ad) : RS := rPar 4 5 (rCons (rCall 2 (ct__law_next a) (rCons (rVar 0) (rCons (rC (.int 3)) rNil))) (rCons (rBin getD (rCall 2 (ct__law_pick a) (rCons (rVar 0) (rCons (fun _ μ => noX (ct__law_parts a [] μ)) rNil))) (rC (.int 0))) rNil))
abbrev zLst : RE := rLst (rCons (rC .non) (rCons (rLst rNil) (rCons (rC (.str "rule")) (rCons rDnew (rCons (rC (.int 5)) (rCons (rDict ["lost"] (rCons (rC (.str "again")) rNil)) rNil))))))
abbrev zA (a : Ad) : RS := rAsgD (gSt (rVar 1) (rC (.int 1))) (rCall 2 (ct__law_pick a) (rCons (rVar 0) (rCons zLst rNil)))
abbrev zVal (a : Ad) : RE := rCall 2 (ct__law_pick a) (rCons (rVar 0) (rCons (rLst (rCons (rC (.str "fits")) (rCons (rC (.str "now")) (rCons (rC .non) (rCons (rC (.bl true)) (rCons (rC (.str "")) (rCons (rLst (rCons (rC (.str "looks")) rNil)) (rCons (rC (.str "thing")) (rCons (rC (.int 0)) rNil))))))))) rNil))
abbrev zB (a : Ad) : RS := rIfS (rT (rCB (isiD (.ty "dict") (isT "dict")) (rCons (rBin getD (rVar 1) (rC (.int 1))) (rCons (rC (.vv (.ty "dict"))) rNil)))) (rAsgD (gSt (rBin getD (rVar 1) (rC (.int 1))) (rVar 5)) (zVal a)) (fun δ μ => .nx δ μ)
abbrev z1 (a : Ad) : RS := rSeq (zPar a) (rIfS (rT (rBin eqD (rVar 4) (rC (.int 0)))) (zA a) (zB a))
theorem vw_l {k : Nat} {μ : List Ob} {xs : List D} (h : μ[k]? = some (.lst xs)) : (D.loc k).view μ = .lst xs := by
  unfold D.view
  simp only [h]
theorem vw_d {k : Nat} {μ : List Ob} {ks : List Key} {xs : List D} (h : μ[k]? = some (.dct ks xs)) : (D.loc k).view μ = .dct ks xs := by
  unfold D.view
  simp only [h]
section
variable (a : Ad) (s : Src) (j : List Ob) (D0 : Ob) (P U W : D) (g : List Ob) (o2 o3 o4 o5 o6 : Option D)
theorem zPar_ok : ∃ n s', n ∈ KW ∧ zPar a (sl7 (nR j) o2 o3 o4 o5 o6) (st s j D0 P U W g) = .nx (sl7 (nR j) o2 o3 (some (.int (s.next 3).1)) (some (.str n)) o6) (st s' j D0 P U W g) := by
  have e1 := st_next a s j D0 P U W g 3 (by decide) (by decide)
  have e2 := st_pick a (s.next 3).2 j D0 P U W g (PWs.map row) (by decide) (by decide) (by simp [PWs, row, scL, D.sc])
  have m := pick_mem (s.next 3).2 (xs := PWs.map row) (by decide)
  obtain ⟨p, hp, ep⟩ := List.mem_map.mp m
  rw [← ep] at e2
  refine ⟨p.1, ((s.next 3).2.pick (PWs.map row)).2, pw_kw p hp, ?_⟩
  simp [e1, parts_ok, noX, -List.map_cons, e2, row]
theorem row1 : getD (.loc (nR j)) (.int 1) (st s j D0 P U W g) = .ok U (st s j D0 P U W g) := by
  have v := vw_l (st_at1 s j D0 P U W g)
  rw [getD_eq]
  show getV ((D.loc (2 + j.length + 1)).view _) _ _ = _
  rw [v]
  simp
theorem zLst_ok (δ : Sl) : zLst δ (st s j D0 P U W g) = .ok (.lst [.non, .lst [], .str "rule", .loc (2 + j.length + 2 + g.length), .int 5, .loc (2 + j.length + 2 + (g.length + 1))]) (st s j D0 P U W (g ++ [.dct [] [], .dct [.inr "lost"] [.str "again"]])) := by
  have e1 : rDnew δ (st s j D0 P U W g) = .ok (.loc (2 + j.length + 2 + g.length)) (st s j D0 P U W (g ++ [.dct [] []])) := by
    unfold rDnew
    rw [st_len, st_app]
  have e2 : rDict ["lost"] (rCons (rC (.str "again")) rNil) δ (st s j D0 P U W (g ++ [.dct [] []])) = .ok (.loc (2 + j.length + 2 + (g.length + 1))) (st s j D0 P U W (g ++ [.dct [] [], .dct [.inr "lost"] [.str "again"]])) := by
    have l : (st s j D0 P U W (g ++ [.dct [] []])).length = 2 + j.length + 2 + (g.length + 1) := by rw [st_len]; simp
    have g1 : (g ++ [Ob.dct [] []] ++ [Ob.dct [] []])[g.length + 1]? = some (.dct [] []) := by
      rw [List.getElem?_append_right (by simp)]
      simp
    have g2 : (g ++ [Ob.dct [] []] ++ [Ob.dct [] []]).set (g.length + 1) (.dct [.inr "lost"] [.str "again"]) = g ++ [.dct [] [], .dct [.inr "lost"] [.str "again"]] := by
      rw [List.set_append_right _ _ (by simp)]
      simp
    unfold rDict
    rw [l, st_app]
    simp only [s_rCons, s_rC, s_rNil, R.ok_bind, st_atg]
    rw [g1]
    simp only [st_setg]
    rw [show ((["lost"] : List Str).map Sum.inr : List Key) = [.inr "lost"] from rfl, g2]
    simp
  unfold zLst
  simp [-s_rDnew, e1, e2]
end
end
end LX

namespace LX
open PySem L2 DL
noncomputable section
theorem ob_full {v : Str → D} (h : ∀ p ∈ KW, VOk (v p)) (n : Nat) : (Ob.dct K6 (KW.map v)).sc n = true := by
  rw [Ob.sc]
  exact sc_map _ fun p hp => (h p hp).sc n
section
variable (a : Ad) (s : Src) (j : List Ob) (D0 : Ob) (P U W : D) (g : List Ob) (o2 o3 o4 o5 o6 : Option D)
theorem zA_ok (k : Nat) : ∃ s' U' g', RS0 (2 + j.length) D0 g' (k + 1) U' ∧ zA a (sl7 (nR j) o2 o3 o4 o5 o6) (st s j D0 P U W g) = .nx (sl7 (nR j) o2 o3 o4 o5 o6) (st s' j D0 P U' W g') := by
  have e1 := zLst_ok s j D0 P U W g (sl7 (nR j) o2 o3 o4 o5 o6)
  generalize hg : g ++ [Ob.dct [] [], Ob.dct [.inr "lost"] [.str "again"]] = g' at e1
  generalize hx : ([.non, .lst [], .str "rule", .loc (2 + j.length + 2 + g.length), .int 5, .loc (2 + j.length + 2 + (g.length + 1))] : List D) = xs at e1
  have hl : xs.length = 6 := by rw [← hx]; rfl
  have hgl : g'.length = g.length + 2 := by rw [← hg]; simp
  have e2 := st_pick a s j D0 P U W g' xs (by omega) (by omega) (by
    rw [st_len, hgl, ← hx]
    simp [scL, D.sc])
  have m := pick_mem s (xs := xs) (by omega)
  have p := put1 (s.pick xs).2 j D0 P U W g' (s.pick xs).1
  refine ⟨(s.pick xs).2, (s.pick xs).1, g', ?_, ?_⟩
  · generalize (s.pick xs).1 = d at m
    rw [← hx] at m
    simp only [List.mem_cons, List.not_mem_nil, or_false] at m
    rcases m with rfl | rfl | rfl | rfl | rfl | rfl
    · exact .odd _ (by simp)
    · exact .odd _ (by simp)
    · exact .odd _ (by simp)
    · refine .few g.length [] [] ?_ (fun k hk => by cases hk) (by simp) rfl (by simp [scL])
      rw [← hg, List.getElem?_append_right (by simp)]
      simp
    · exact .odd _ (by simp)
    · refine .few (g.length + 1) ["lost"] [.str "again"] ?_ (fun k hk => by rw [List.mem_singleton.mp hk]; decide +kernel) (by simp) rfl (by simp [scL, D.sc])
      rw [← hg, List.getElem?_append_right (by simp)]
      simp
  · unfold zA
    generalize zLst = z at e1 ⊢
    simp [e1, e2, p]
theorem zVal_ok : ∃ s' d, d ∈ vOdd ∧ zVal a (sl7 (nR j) o2 o3 o4 o5 o6) (st s j D0 P U W g) = .ok d (st s' j D0 P U W g) := by
  have e := st_pick a s j D0 P U W g vOdd (by decide) (by decide) (by simp [vOdd, scL, D.sc])
  refine ⟨(s.pick vOdd).2, (s.pick vOdd).1, pick_mem s (by decide), ?_⟩
  have e' : ct__law_pick a [.loc 1, .lst [.str "fits", .str "now", .non, .bl true, .str "", .lst [.str "looks"], .str "thing", .int 0]] (st s j D0 P U W g) = _ := e
  simp [e']
theorem isi_dct {d : D} {μ : List Ob} {ks : List Key} {xs : List D} (h : d.view μ = .dct ks xs) : isiD (.ty "dict") (isT "dict") [d, .vv (.ty "dict")] μ = .ok (.bl true) μ := by
  simp [isiD, isT, h, D.tyS, kb_dct]
theorem isi_odd {d : D} {μ : List Ob} (h : d ∈ [D.non, .lst [], .str "rule", .int 5]) : isiD (.ty "dict") (isT "dict") [d, .vv (.ty "dict")] μ = .ok (.bl false) μ := by
  simp only [List.mem_cons, List.not_mem_nil, or_false] at h
  rcases h with rfl | rfl | rfl | rfl <;> simp [isiD, isT, D.tyS, kb_nd, kb_ld, kb_strd, kb_id]
abbrev zBt (a : Ad) : RT := rT (rCB (isiD (.ty "dict") (isT "dict")) (rCons (rBin getD (rVar 1) (rC (.int 1))) (rCons (rC (.vv (.ty "dict"))) rNil)))
theorem zBt_ok {b : Bool} (h : isiD (.ty "dict") (isT "dict") [U, .vv (.ty "dict")] (st s j D0 P U W g) = .ok (.bl b) (st s j D0 P U W g)) : zBt a (sl7 (nR j) o2 o3 o4 o5 o6) (st s j D0 P U W g) = .ok b (st s j D0 P U W g) := by
  have r := row1 s j D0 P U W g
  simp [-getD_eq, r, h]
abbrev zBs (a : Ad) : RS := rAsgD (gSt (rBin getD (rVar 1) (rC (.int 1))) (rVar 5)) (zVal a)
theorem zBs_ok {n : Str} {s' : Src} {d : D} {μ : List Ob} (hv : zVal a (sl7 (nR j) o2 o3 o4 (some (.str n)) o6) (st s j D0 P U W g) = .ok d (st s' j D0 P U W g)) (hs : storeD U (.str n) d (st s' j D0 P U W g) = .ok () μ) :
    zBs a (sl7 (nR j) o2 o3 o4 (some (.str n)) o6) (st s j D0 P U W g) = .nx (sl7 (nR j) o2 o3 o4 (some (.str n)) o6) μ := by
  have r := row1 s' j D0 P U W g
  unfold zBs
  rw [s_rAsgD, hv]
  simp [-getD_eq, r, hs]
theorem zB_ok (k : Nat) (hk : k < 1000) {n : Str} (hn : n ∈ KW) (h : RS0 (2 + j.length) D0 g k U) : ∃ s' D0' g', RS0 (2 + j.length) D0' g' (k + 1) U ∧ ((∀ n, D0.sc n = true) → ∀ n, D0'.sc n = true) ∧ zB a (sl7 (nR j) o2 o3 o4 (some (.str n)) o6) (st s j D0 P U W g) = .nx (sl7 (nR j) o2 o3 o4 (some (.str n)) o6) (st s' j D0' P U W g') := by
  have go : ∀ b μ, zBt a (sl7 (nR j) o2 o3 o4 (some (.str n)) o6) (st s j D0 P U W g) = .ok b (st s j D0 P U W g) → (b = true → zBs a (sl7 (nR j) o2 o3 o4 (some (.str n)) o6) (st s j D0 P U W g) = .nx (sl7 (nR j) o2 o3 o4 (some (.str n)) o6) μ) → (b = false → μ = st s j D0 P U W g) →
      zB a (sl7 (nR j) o2 o3 o4 (some (.str n)) o6) (st s j D0 P U W g) = .nx (sl7 (nR j) o2 o3 o4 (some (.str n)) o6) μ := by
    intro b μ h1 h2 h3
    unfold zB
    unfold zBt at h1
    rw [s_rIfS, h1]
    cases b with
    | true => exact h2 rfl
    | false => rw [h3 rfl]; rfl
  obtain ⟨s', d, hd, hv⟩ := zVal_ok a s j D0 P U W g o2 o3 o4 (some (.str n)) o6
  cases h with
  | odd _ h =>
    refine ⟨s, D0, g, .odd _ h, id, go false _ (zBt_ok a s j D0 P U W g _ _ _ _ _ (isi_odd h)) (fun z => nomatch z) fun _ => rfl⟩
  | orig v h e =>
    subst e
    have v1 := vw_d (st_at0 s j (.dct K6 (KW.map v)) P (.loc (2 + j.length)) W g)
    refine ⟨s', .dct K6 (KW.map (updV v n d)), g, .orig (updV v n d) (updV_ok h n (vOdd_ok hd)) rfl, fun _ => ob_full (updV_ok h n (vOdd_ok hd)), go true _ (zBt_ok a s j _ P _ W g _ _ _ _ _ (isi_dct v1)) (fun _ => zBs_ok a s j _ P _ W g o2 o3 o4 o6 hv ?_) fun z => nomatch z⟩
    unfold storeD
    simp only [st_at0]
    show (if K6.length < 16777216 then DL.R.ok () ((st s' j (.dct K6 (KW.map v)) P (.loc (2 + j.length)) W g).set (2 + j.length) (.dct (putKs K6 (.inr n)) (putXs K6 (KW.map v) (.inr n) d))) else .bad) = _
    rw [if_pos (by decide), (put6 v hn d).1, (put6 v hn d).2, st_set0]
  | few i ks xs hi h hl he hx =>
    have v1 := vw_d ((st_atg s j D0 P (.loc (2 + j.length + 2 + i)) W g i).trans hi)
    obtain ⟨ks', q1, q2, q3, q4, q5⟩ := few_put h hl he hx hn ((vOdd_ok hd).sc 0)
    have hil := (List.getElem?_eq_some_iff.mp hi).1
    refine ⟨s', D0, g.set i (.dct (ks'.map Sum.inr) (putXs (ks.map Sum.inr) xs (.inr n) d)), .few i ks' _ (by rw [List.getElem?_set_self hil]) q2 q3 q4 q5, id, go true _ (zBt_ok a s j _ P _ W g _ _ _ _ _ (isi_dct v1)) (fun _ => zBs_ok a s j _ P _ W g o2 o3 o4 o6 hv ?_) fun z => nomatch z⟩
    unfold storeD
    simp only [st_atg, hi]
    show (if ((ks.map Sum.inr : List Key)).length < 16777216 then DL.R.ok () ((st s' j D0 P (.loc (2 + j.length + 2 + i)) W g).set (2 + j.length + 2 + i) (.dct (putKs (ks.map Sum.inr) (.inr n)) (putXs (ks.map Sum.inr) xs (.inr n) d))) else .bad) = _
    rw [if_pos (by rw [List.length_map]; omega), q1, st_setg]
end
end
end LX

namespace LX
open PySem L2 DL
noncomputable section
abbrev bSp (a : Ad) : RS := rSeq (rSet 3 (rCall 2 (ct__law_next a) (rCons (rVar 0) (rCons (rC (.int 3)) rNil))))
    (rIfS (rT (rBin eqD (rVar 3) (rC (.int 0)))) (z0 a) (rIfS (rT (rBin eqD (rVar 3) (rC (.int 1)))) (z1 a) (z2 a)))
theorem r_spo (a : Ad) : r_law_spoiled a = rSeq (rFor (rRange1 (rCons (rCall 2 (ct__law_next a) (rCons (rVar 0) (rCons (rC (.int 3)) rNil))) rNil)) (.nm 2) (bSp a)) (rRet (rFzl (rFrz1 1 (rVar 1)))) := rfl
structure Iv (j : List Ob) (k : Nat) (D0 : Ob) (P U W : D) (g : List Ob) : Prop where
  p : ∃ b, PV P b
  u : RS0 (2 + j.length) D0 g k U
  w : ∃ b, WV W b
  d : ∀ n, D0.sc n = true
section
variable (a : Ad) (s : Src) (j : List Ob) (D0 : Ob) (P U W : D) (g : List Ob) (o2 o3 o4 o5 o6 : Option D)
theorem eq0_ok (i c : Int) (o : Nat) (δ : Sl) (μ : List Ob) (h : δ[o]? = some (some (.int i))) : rT (rBin eqD (rVar o) (rC (.int c))) δ μ = .ok (decide (i = c)) μ := by
  simp [h, eq_ints]
theorem sp_turn (k : Nat) (hk : k < 1000) (h : Iv j k D0 P U W g) : ∃ s' D0' P' U' W' g' o3' o4' o5' o6', Iv j (k + 1) D0' P' U' W' g' ∧
    bSp a (sl7 (nR j) o2 o3 o4 o5 o6) (st s j D0 P U W g) = .nx (sl7 (nR j) o2 o3' o4' o5' o6') (st s' j D0' P' U' W' g') := by
  have e := st_next a s j D0 P U W g 3 (by decide) (by decide)
  generalize hz : s.next 3 = z at e
  have e1 : rSet 3 (rCall 2 (ct__law_next a) (rCons (rVar 0) (rCons (rC (.int 3)) rNil))) (sl7 (nR j) o2 o3 o4 o5 o6) (st s j D0 P U W g) = .nx (sl7 (nR j) o2 (some (.int z.1)) o4 o5 o6) (st z.2 j D0 P U W g) := by
    simp [e]
  have q0 := eq0_ok z.1 0 3 (sl7 (nR j) o2 (some (.int z.1)) o4 o5 o6) (st z.2 j D0 P U W g) rfl
  have q1 := eq0_ok z.1 1 3 (sl7 (nR j) o2 (some (.int z.1)) o4 o5 o6) (st z.2 j D0 P U W g) rfl
  have go : ∀ r, (if z.1 = 0 then z0 a (sl7 (nR j) o2 (some (.int z.1)) o4 o5 o6) (st z.2 j D0 P U W g) else if z.1 = 1 then z1 a (sl7 (nR j) o2 (some (.int z.1)) o4 o5 o6) (st z.2 j D0 P U W g) else z2 a (sl7 (nR j) o2 (some (.int z.1)) o4 o5 o6) (st z.2 j D0 P U W g)) = r →
      bSp a (sl7 (nR j) o2 o3 o4 o5 o6) (st s j D0 P U W g) = r := by
    intro r hr
    unfold bSp
    rw [s_rSeq, e1]
    simp only
    rw [s_rIfS, q0]
    by_cases h0 : z.1 = 0
    · rw [if_pos h0] at hr
      rw [decide_eq_true h0]
      exact hr
    · rw [if_neg h0] at hr
      rw [decide_eq_false h0]
      simp only [R.ok_st]
      rw [s_rIfS, q1]
      by_cases h1 : z.1 = 1
      · rw [if_pos h1] at hr
        rw [decide_eq_true h1]
        exact hr
      · rw [if_neg h1] at hr
        rw [decide_eq_false h1]
        exact hr
  by_cases h0 : z.1 = 0
  · exact ⟨_, D0, _, U, W, g, _, _, _, _, ⟨⟨_, pOdd_ok (pick_mem z.2 (by decide))⟩, h.u.up, h.w, h.d⟩, go _ (by rw [if_pos h0]; exact z0_ok a z.2 j D0 P U W g _ _ _ _ _)⟩
  · by_cases h1 : z.1 = 1
    · obtain ⟨n, s2, hn, ep⟩ := zPar_ok a z.2 j D0 P U W g o2 (some (.int z.1)) o4 o5 o6
      have q4 := eq0_ok (z.2.next 3).1 0 4 (sl7 (nR j) o2 (some (.int z.1)) (some (.int (z.2.next 3).1)) (some (.str n)) o6) (st s2 j D0 P U W g) rfl
      by_cases h4 : (z.2.next 3).1 = 0
      · obtain ⟨s', U', g', hu, ez⟩ := zA_ok a s2 j D0 P U W g o2 (some (.int z.1)) (some (.int (z.2.next 3).1)) (some (.str n)) o6 k
        refine ⟨s', D0, P, U', W, g', some (.int z.1), some (.int (z.2.next 3).1), some (.str n), o6, ⟨h.p, hu, h.w, h.d⟩, go _ ?_⟩
        rw [if_neg h0, if_pos h1]
        unfold z1
        rw [s_rSeq, ep]
        simp only
        rw [s_rIfS, q4, decide_eq_true h4]
        exact ez
      · obtain ⟨s', D0', g', hu, hd, ez⟩ := zB_ok a s2 j D0 P U W g o2 (some (.int z.1)) (some (.int (z.2.next 3).1)) o6 k hk hn h.u
        refine ⟨s', D0', P, U, W, g', some (.int z.1), some (.int (z.2.next 3).1), some (.str n), o6, ⟨h.p, hu, h.w, hd h.d⟩, go _ ?_⟩
        rw [if_neg h0, if_pos h1]
        unfold z1
        rw [s_rSeq, ep]
        simp only
        rw [s_rIfS, q4, decide_eq_false h4]
        exact ez
    · exact ⟨_, D0, P, U, _, g, _, _, _, _, ⟨h.p, h.u.up, ⟨_, .odd _ (pick_mem z.2 (by decide))⟩, h.d⟩, go _ (by rw [if_neg h0, if_neg h1]; exact z2_ok a z.2 j D0 P U W g _ _ _ _ _)⟩
end
theorem sp_loop (a : Ad) (j : List Ob) : ∀ (ts : List D) (k : Nat) (s : Src) (D0 : Ob) (P U W : D) (g : List Ob) (o2 o3 o4 o5 o6 : Option D), k + ts.length < 1000 → Iv j k D0 P U W g →
    ∃ s' D0' P' U' W' g' δ2 δ3 δ4 δ5 δ6, Iv j (k + ts.length) D0' P' U' W' g' ∧ forL (.nm 2) (bSp a) ts (sl7 (nR j) o2 o3 o4 o5 o6) (st s j D0 P U W g) = .nx (sl7 (nR j) δ2 δ3 δ4 δ5 δ6) (st s' j D0' P' U' W' g')
  | [], k, s, D0, P, U, W, g, o2, o3, o4, o5, o6, _, h => ⟨s, D0, P, U, W, g, _, _, _, _, _, h, rfl⟩
  | t :: ts, k, s, D0, P, U, W, g, o2, o3, o4, o5, o6, hl, h => by
    rw [List.length_cons] at hl
    obtain ⟨s1, D1, P1, U1, W1, g1, p3, p4, p5, p6, i1, e1⟩ := sp_turn a s j D0 P U W g (some t) o3 o4 o5 o6 k (by omega) h
    obtain ⟨s2, D2, P2, U2, W2, g2, r2, r3, r4, r5, r6, i2, e2⟩ := sp_loop a j ts (k + 1) s1 D1 P1 U1 W1 g1 (some t) p3 p4 p5 p6 (by omega) i1
    refine ⟨s2, D2, P2, U2, W2, g2, r2, r3, r4, r5, r6, by rw [List.length_cons]; rw [show k + (ts.length + 1) = k + 1 + ts.length by omega]; exact i2, ?_⟩
    rw [forL]
    show (match bSp a (sl7 (nR j) (some t) o3 o4 o5 o6) (st s j D0 P U W g) with
      | .nx δ2 μ2 => forL (.nm 2) (bSp a) ts δ2 μ2
      | .ct δ2 μ2 => forL (.nm 2) (bSp a) ts δ2 μ2
      | .bk δ2 μ2 => .nx δ2 μ2
      | r => r) = _
    rw [e1]
    exact e2
end
end LX

namespace LX
open PySem L2 DL
noncomputable section
theorem rf_sc {d : D} {f : Option Str} (h : RF d f) (n : Nat) : d.sc n = true := by
  cases h with
  | odd _ h =>
    simp only [List.mem_cons, List.not_mem_nil, or_false] at h
    rcases h with rfl | rfl | rfl | rfl <;> simp [D.sc, scL]
  | few ks xs h hl he hx => rw [D.sc]; exact scL_le (Nat.zero_le n) _ hx
  | full v h => exact sc_ruleV h n
theorem pv_sc {d : D} {b : Bool} (h : PV d b) (n : Nat) : d.sc n = true := by cases h <;> simp [D.sc, scL]
theorem wv_sc {d : D} {b : Bool} (h : WV d b) (n : Nat) : d.sc n = true := by
  cases h with
  | good q => simp [wordsD, D.sc, sc_strs]
  | odd _ h =>
    simp only [wOdd, List.mem_cons, List.not_mem_nil, or_false] at h
    rcases h with rfl | rfl | rfl | rfl | rfl | rfl | rfl | rfl <;> simp [D.sc, scL]
/-- the store behind a row that stands still -/
def dn (s : Src) (j : List Ob) (o : Ob) (g : List Ob) : List Ob := src s ++ (j ++ o :: .dead :: g)
theorem dn_set (s : Src) (j : List Ob) (D0 : Ob) (P U W : D) (g : List Ob) : (st s j D0 P U W g).set (2 + j.length + 1) .dead = dn s j D0 g := by
  unfold st dn
  rw [List.set_append_right _ _ (by rw [src_l]; omega), src_l, List.set_append_right _ _ (by omega)]
  have : 2 + j.length + 1 - 2 - j.length = 1 := by omega
  rw [this]
  rfl
section
variable (a : Ad) (s : Src) (j : List Ob) (D0 : Ob) (P U W : D) (g : List Ob) (o2 o3 o4 o5 o6 : Option D)
abbrev fin2 : RS := rRet (rFzl (rFrz1 1 (rVar 1)))
theorem frz1_no (h : ∀ k, U ≠ .loc k) (δ : Sl) (hδ : δ[1]? = some (some (.loc (nR j)))) : rFrz1 1 (rVar 1) δ (st s j D0 P U W g) = .ok (.loc (nR j)) (st s j D0 P U W g) := by
  unfold rFrz1
  rw [s_rVar, hδ]
  simp only [R.ok_bind]
  rw [show (st s j D0 P U W g)[nR j]? = some (.lst [P, U, W]) from st_at1 ..]
  cases U with
  | loc k => exact absurd rfl (h k)
  | _ => rfl
theorem frz1_yes {k : Nat} {ks : List Key} {xs : List D} (hk : (st s j D0 P (.loc k) W g)[k]? = some (.dct ks xs)) (δ : Sl) (hδ : δ[1]? = some (some (.loc (nR j)))) :
    rFrz1 1 (rVar 1) δ (st s j D0 P (.loc k) W g) = .ok (.loc (nR j)) (((st s j D0 P (.loc k) W g).set k .dead).set (nR j) (.lst [P, .dct ks xs, W])) := by
  unfold rFrz1
  rw [s_rVar, hδ]
  simp only [R.ok_bind]
  rw [show (st s j D0 P (.loc k) W g)[nR j]? = some (.lst [P, .loc k, W]) from st_at1 ..]
  simp only [List.getElem?_cons_succ, List.getElem?_cons_zero, hk]
  rfl
theorem fzl_ok {D1 : Ob} {U1 : D} {g1 : List Ob} {δ : Sl} {f : RE} {μ : List Ob} (h : f δ μ = .ok (.loc (nR j)) (st s j D1 P U1 W g1)) : rFzl f δ μ = .ok (.lst [P, U1, W]) (dn s j D1 g1) := by
  unfold rFzl
  rw [h]
  simp only [R.ok_bind]
  rw [show (st s j D1 P U1 W g1)[nR j]? = some (.lst [P, U1, W]) from st_at1 ..]
  simp only
  rw [show (st s j D1 P U1 W g1).set (nR j) .dead = dn s j D1 g1 from dn_set ..]
theorem fin_ok {k : Nat} (hk : k ≤ 2) (h : Iv j k D0 P U W g) : ∃ D1 U1 f g1, RF U1 f ∧ (∀ n, D1.sc n = true) ∧ fin2 (sl7 (nR j) o2 o3 o4 o5 o6) (st s j D0 P U W g) = .rt (.lst [P, U1, W]) (dn s j D1 g1) := by
  have go : ∀ D1 U1 g1, rFrz1 1 (rVar 1) (sl7 (nR j) o2 o3 o4 o5 o6) (st s j D0 P U W g) = .ok (.loc (nR j)) (st s j D1 P U1 W g1) → fin2 (sl7 (nR j) o2 o3 o4 o5 o6) (st s j D0 P U W g) = .rt (.lst [P, U1, W]) (dn s j D1 g1) := fun D1 U1 g1 e => by
    unfold fin2
    rw [s_rRet, fzl_ok s j P W e]
    rfl
  have hd := h.d
  cases h.u with
  | odd _ ho =>
    refine ⟨D0, U, some "", g, .odd _ ho, hd, go _ _ _ (frz1_no s j D0 P U W g (fun k e => ?_) _ rfl)⟩
    subst e
    simp at ho
  | orig v hv e =>
    subst e
    refine ⟨.dead, ruleV v, bad1 v PWs, g, .full v hv, fun n => rfl, go _ _ _ ?_⟩
    rw [frz1_yes s j _ P W g (st_at0 ..) _ rfl, st_set0]
    exact congrArg _ (st_set1 ..)
  | few i ks xs hi q hl he hx =>
    refine ⟨D0, .dct (ks.map Sum.inr) xs, some "", g.set i .dead, .few ks xs q (by omega) he hx, hd, go _ _ _ ?_⟩
    rw [frz1_yes s j _ P W g ((st_atg ..).trans hi) _ rfl, st_setg]
    exact congrArg _ (st_set1 ..)
end
theorem old_sp (s s' : Src) (j : List Ob) (D0 D1 : Ob) (P U W : D) (h : ∀ n, D1.sc n = true) : Old (st s j D0 P U W []) (dn s' j D1 []) := by
  refine ⟨by simp [st, dn, src_l], fun k o hk e => ?_⟩
  unfold dn at e
  rcases Nat.lt_or_ge k 2 with c | c
  · have o1 := (old_src s s' (j ++ [D0, .lst [P, U, W]])).2 k o (by rw [src_len]; omega) (by
      rw [List.getElem?_append_left (by rw [src_l]; exact c)] at e ⊢
      exact e)
    exact o1
  · rw [List.getElem?_append_right (by rw [src_l]; exact c), src_l] at e
    rcases Nat.lt_or_ge (k - 2) j.length with c2 | c2
    · left
      unfold st
      rw [List.getElem?_append_right (by rw [src_l]; exact c), src_l]
      rw [List.getElem?_append_left c2] at e ⊢
      exact e
    · rw [List.getElem?_append_right c2] at e
      right
      match hm : k - 2 - j.length, e with
      | 0, e => simp at e; subst e; exact h _
      | 1, e => simp at e; subst e; rfl
      | m + 2, e => simp at e
theorem spoil_ok (a : Ad) (s : Src) (j : List Ob) (D0 : Ob) (P U W : D) (h : Iv j 0 D0 P U W []) : ∃ s' X P' b U' f W' bw, PV P' b ∧ RF U' f ∧ WV W' bw ∧
    ct__law_spoiled a [.loc 1, .loc (nR j)] (st s j D0 P U W []) = .ok (.lst [P', U', W']) (src s' ++ (j ++ [X, .dead])) := by
  have e := st_next a s j D0 P U W [] 3 (by decide) (by decide)
  obtain ⟨v0, v1⟩ := next_rng s (cap := 3) (by decide)
  generalize s.next 3 = z at e v0 v1
  have hr : rRange1 (rCons (rCall 2 (ct__law_next a) (rCons (rVar 0) (rCons (rC (.int 3)) rNil))) rNil) (sl7 (nR j) none none none none none) (st s j D0 P U W []) = .ok (DL.upTo 0 z.1.toNat) (st z.2 j D0 P U W []) := by
    unfold rRange1
    have : -4611686018427387904 ≤ z.1 ∧ z.1 < 4611686018427387904 := by omega
    simp [e, this]
  have hl : (DL.upTo 0 z.1.toNat).length = z.1.toNat := by simp [DL.upTo]
  obtain ⟨s2, D2, P2, U2, W2, g2, r2, r3, r4, r5, r6, i2, e2⟩ := sp_loop a j (DL.upTo 0 z.1.toNat) 0 z.2 D0 P U W [] none none none none none (by omega) h
  obtain ⟨D3, U3, f, g3, hu, hd, e3⟩ := fin_ok s2 j D2 P2 U2 W2 g2 r2 r3 r4 r5 r6 (by omega) i2
  obtain ⟨b, hp⟩ := i2.p
  obtain ⟨bw, hw⟩ := i2.w
  refine ⟨s2, D3, P2, b, U3, f, W2, bw, hp, hu, hw, ctT_rt (j := g3) ?_ (old_sp s s2 j D0 D3 P U W hd) ?_⟩
  · rw [r_spo]
    show rSeq _ _ (sl7 (nR j) none none none none none) (st s j D0 P U W []) = _
    rw [s_rSeq, s_rFor, hr]
    simp only [R.ok_st]
    rw [e2]
    simp only
    have e4 : rRet (rFzl (rFrz1 1 (rVar 1))) (sl7 (nR j) r2 r3 r4 r5 r6) (st s2 j D2 P2 U2 W2 g2) = _ := e3
    rw [e4]
    unfold dn
    simp
  · rw [D.sc, scL, scL, scL, pv_sc hp, rf_sc hu, wv_sc hw]
    rfl
end
end LX

namespace LX
open PySem L2 DL
noncomputable section
def vR (r : Rl) : Str → D := fun p => if p = "counts" then .str r.c else if p = "evening" then .str r.e else if p = "lost" then .str r.l else if p = "remembers" then .str r.m else if p = "search" then .str r.s else .str r.t
theorem sn01 : ¬ (("evening" : Str) = "counts") := by decide +kernel
theorem sn02 : ¬ (("lost" : Str) = "counts") := by decide +kernel
theorem sn03 : ¬ (("remembers" : Str) = "counts") := by decide +kernel
theorem sn04 : ¬ (("search" : Str) = "counts") := by decide +kernel
theorem sn05 : ¬ (("tells" : Str) = "counts") := by decide +kernel
theorem sn12 : ¬ (("lost" : Str) = "evening") := by decide +kernel
theorem sn13 : ¬ (("remembers" : Str) = "evening") := by decide +kernel
theorem sn14 : ¬ (("search" : Str) = "evening") := by decide +kernel
theorem sn15 : ¬ (("tells" : Str) = "evening") := by decide +kernel
theorem sn23 : ¬ (("remembers" : Str) = "lost") := by decide +kernel
theorem sn24 : ¬ (("search" : Str) = "lost") := by decide +kernel
theorem sn25 : ¬ (("tells" : Str) = "lost") := by decide +kernel
theorem sn34 : ¬ (("search" : Str) = "remembers") := by decide +kernel
theorem sn35 : ¬ (("tells" : Str) = "remembers") := by decide +kernel
theorem sn45 : ¬ (("tells" : Str) = "search") := by decide +kernel
theorem vR_map (r : Rl) : KW.map (vR r) = rl6 r := by
  unfold KW rl6 vR
  simp only [List.map_cons, List.map_nil, if_true, if_neg sn01, if_neg sn02, if_neg sn03, if_neg sn04, if_neg sn05, if_neg sn12, if_neg sn13, if_neg sn14, if_neg sn15, if_neg sn23, if_neg sn24, if_neg sn25, if_neg sn34, if_neg sn35, if_neg sn45]
theorem vR_rule (r : Rl) : ruleV (vR r) = ruleD r := by
  unfold ruleV
  rw [vR_map]
  rfl
theorem vR_ok {r : Rl} (h : RlS r) : ∀ p ∈ KW, VOk (vR r p) := fun p _ => by
  unfold vR
  split
  · exact .str _ h.c
  split
  · exact .str _ h.e
  split
  · exact .str _ h.l
  split
  · exact .str _ h.m
  split
  · exact .str _ h.s
  · exact .str _ h.t
/-- the rule with another word -/
theorem with_ok (a : Ad) (v : Str → D) (hv : ∀ p ∈ KW, VOk (v p)) {n : Str} (hn : n ∈ KW) {d : D} (hd : VOk d) (μ : List Ob) : ct__law_with a [ruleV v, .str n, d] μ = .ok (ruleV (updV v n d)) μ := by
  refine pu_rt ⟨[.dead], ?_⟩ (sc_ruleV (updV_ok hv n hd) 0)
  have e1 : dictD [ruleV v] μ = .ok (.loc μ.length) (μ ++ [.dct K6 (KW.map v)]) := rfl
  have e2 : storeD (.loc μ.length) (.str n) d (μ ++ [.dct K6 (KW.map v)]) = .ok () (μ ++ [.dct K6 (KW.map (updV v n d))]) := by
    unfold storeD
    have : (μ ++ [Ob.dct K6 (KW.map v)])[μ.length]? = some (.dct K6 (KW.map v)) := by simp
    simp only [this]
    show (if K6.length < 16777216 then DL.R.ok () ((μ ++ [Ob.dct K6 (KW.map v)]).set μ.length (.dct (putKs K6 (.inr n)) (putXs K6 (KW.map v) (.inr n) d))) else .bad) = _
    rw [if_pos (by decide), (put6 v hn d).1, (put6 v hn d).2]
    simp
  have e3 : rFrz (rVar 3) [some (ruleV v), some (.str n), some d, some (.loc μ.length)] (μ ++ [.dct K6 (KW.map (updV v n d))]) = .ok (ruleV (updV v n d)) (μ ++ [.dead]) := by
    have : (μ ++ [Ob.dct K6 (KW.map (updV v n d))])[μ.length]? = some (.dct K6 (KW.map (updV v n d))) := by simp
    unfold rFrz
    simp [-getElem?_pos, List.getElem?_cons_zero, List.getElem?_cons_succ, this]
    rfl
  unfold r_law_with
  show rSeq _ _ [some (ruleV v), some (.str n), some d, none] μ = _
  rw [s_rSeq]
  have t1 : rSet 3 (rCB dictD (rCons (rVar 0) rNil)) [some (ruleV v), some (.str n), some d, none] μ = .nx [some (ruleV v), some (.str n), some d, some (.loc μ.length)] (μ ++ [.dct K6 (KW.map v)]) := by
    simp [e1]
  rw [t1]
  simp only
  rw [s_rSeq]
  have t2 : rAsgD (gSt (rVar 3) (rVar 1)) (rVar 2) [some (ruleV v), some (.str n), some d, some (.loc μ.length)] (μ ++ [.dct K6 (KW.map v)]) = .nx [some (ruleV v), some (.str n), some d, some (.loc μ.length)] (μ ++ [.dct K6 (KW.map (updV v n d))]) := by
    simp [e2]
  rw [t2]
  simp only
  rw [s_rRet, e3]
  rfl
/-- {**terms, part: word} -/
theorem stars_ok (v : Str → D) {n : Str} (hn : n ∈ KW) (d : D) (fa fk fv : RE) (δ : Sl) (μ : List Ob) (h1 : ∀ μ, fa δ μ = .ok (ruleV v) μ) (h2 : ∀ μ, fk δ μ = .ok (.str n) μ) (h3 : ∀ μ, fv δ μ = .ok d μ) :
    rFrz (rStars fa fk fv) δ μ = .ok (ruleV (updV v n d)) (μ ++ [.dead, .dct [.inr n] [d]]) := by
  have e : rStars fa fk fv δ μ = .ok (.loc μ.length) (μ ++ [.dct K6 (KW.map (updV v n d)), .dct [.inr n] [d]]) := by
    unfold rStars
    rw [h1]
    have g0 : (μ ++ [Ob.dct [] []])[μ.length]? = some (.dct [] []) := by simp
    have vw : (ruleV v).view (μ ++ [.dct [] []]) = .dct K6 (KW.map v) := rfl
    simp only [R.ok_bind, vw, g0]
    have nl : notLoc (ruleV v) μ.length = true ∧ K6.length ≤ 1000000 := ⟨rfl, by decide⟩
    rw [if_pos nl]
    have s1 : (μ ++ [Ob.dct [] []]).set μ.length (.dct K6 (KW.map v)) = μ ++ [.dct K6 (KW.map v)] := by simp
    rw [s1, h2]
    simp only [R.ok_bind]
    rw [h3]
    simp only [R.ok_bind, D.key]
    have g1 : (μ ++ [Ob.dct K6 (KW.map v)] ++ [.dct [] []])[μ.length]? = some (.dct K6 (KW.map v)) := by simp
    have g2 : (μ ++ [Ob.dct K6 (KW.map v)] ++ [.dct [] []])[(μ ++ [Ob.dct [] []]).length]? = some (.dct [] []) := by simp
    rw [g1, g2]
    simp only [if_true]
    rw [(put6 v hn d).1, (put6 v hn d).2]
    simp
  unfold rFrz
  rw [e]
  simp only [R.ok_bind]
  have g : (μ ++ [Ob.dct K6 (KW.map (updV v n d)), .dct [.inr n] [d]])[μ.length]? = some (.dct K6 (KW.map (updV v n d))) := by simp
  rw [g]
  simp only
  show DL.R.ok (ruleV (updV v n d)) _ = _
  refine congrArg _ ?_
  simp
end
end LX

namespace LX
open PySem L2 DL
noncomputable section
theorem fn21 : ¬ (("highest" : Str) = "terms") := by decide +kernel
theorem fn31 : ¬ (("highest" : Str) = "kinds") := by decide +kernel
theorem fn32 : ¬ (("terms" : Str) = "kinds") := by decide +kernel
theorem fld_h (a : Ad) (x y z : D) (μ : List Ob) : fldD a.kBook "highest" (.ins a.kBook F3 [x, y, z]) μ = .ok x μ := by
  simp [fldD, lookD]
theorem fld_t (a : Ad) (x y z : D) (μ : List Ob) : fldD a.kBook "terms" (.ins a.kBook F3 [x, y, z]) μ = .ok y μ := by
  simp [fldD, lookD, fn21]
theorem fld_k (a : Ad) (x y z : D) (μ : List Ob) : fldD a.kBook "kinds" (.ins a.kBook F3 [x, y, z]) μ = .ok z μ := by
  simp [fldD, lookD, fn31, fn32]
abbrev cT (a : Ad) : RT := rNotT (rT (rCall 2 (ct_is_word a) (rCons (rVar 1) (rCons (rCB (onP a.cPARTS fun μ => .ok (.lst (((kv_PARTS a).map (·.1)).map Key.d)) μ) (rCons (rC (d_PARTS a)) rNil)) rNil))))
abbrev cArgs (a : Ad) : RA := rCons (rFld a.kBook "highest" (rVar 0)) (rCons (rFrz (rStars (rFld a.kBook "terms" (rVar 0)) (rVar 1) (rVar 2))) (rCons (rFld a.kBook "kinds" (rVar 0)) rNil))
theorem r_chg (a : Ad) : r_Book_t_changed a = rSeq (rIfS (cT a) (rRaise a.kInvalidRule ["part"] (rCons (rC (.str "")) rNil)) (fun δ μ => .nx δ μ)) (rRet (rMakeX a.kBook 3 (cm_Book a) (cArgs a))) := rfl
theorem cT_ok (a : Ad) (b : D) {d : D} (w : D) (μ : List Ob) (h : VOk d) : cT a [some b, some d, some w] μ = .ok (!good KW d) μ := by
  have e := is_word_gl a (ws := KW) μ h kw_ok
  simp [onP_P, kv_keys', e]
theorem changed_no (a : Ad) (b : D) {d : D} (w : D) (μ : List Ob) (h : VOk d) (hg : good KW d = false) : cu_Book_changed a [b, d, w] μ = .exc (xr a "") μ := by
  refine pu_ex ⟨[some b, some d, some w], [], ?_⟩ (by simp [xr, scL, D.sc])
  rw [r_chg, List.append_nil]
  show rSeq _ _ [some b, some d, some w] μ = _
  rw [s_rSeq, s_rIfS, cT_ok a b w μ h, hg]
  simp [rRaise, xr]
theorem cArgs_ok (a : Ad) (p : Int) (r : Rl) (W : D) {n : Str} (hn : n ∈ KW) (w : D) (μ : List Ob) : cArgs a [some (bookD a p (ruleD r) W), some (.str n), some w] μ = .ok [.int p, ruleV (updV (vR r) n w), W] (μ ++ [.dead, .dct [.inr n] [w]]) := by
  have e := stars_ok (vR r) hn w (rFld a.kBook "terms" (rVar 0)) (rVar 1) (rVar 2) [some (bookD a p (ruleD r) W), some (.str n), some w] μ (fun μ => by
    rw [vR_rule]
    show (DL.R.ok (bookD a p (ruleD r) W) μ).bind _ = _
    exact fld_t a (.int p) (ruleD r) W μ) (fun _ => rfl) (fun _ => rfl)
  have e1 : ∀ μ, rFld a.kBook "highest" (rVar 0) [some (bookD a p (ruleD r) W), some (.str n), some w] μ = .ok (.int p) μ := fun μ => fld_h a (.int p) (ruleD r) W μ
  have e3 : ∀ μ, rFld a.kBook "kinds" (rVar 0) [some (bookD a p (ruleD r) W), some (.str n), some w] μ = .ok W μ := fun μ => fld_k a (.int p) (ruleD r) W μ
  unfold cArgs
  rw [s_rCons, e1]
  simp only [R.ok_bind]
  rw [s_rCons, e]
  simp only [R.ok_bind]
  rw [s_rCons, e3]
  rfl
theorem chg_pass (a : Ad) (b : D) {n : Str} (hn : n ∈ KW) (w : D) (μ : List Ob) (k : RS) : rSeq (rIfS (cT a) (rRaise a.kInvalidRule ["part"] (rCons (rC (.str "")) rNil)) (fun δ μ => .nx δ μ)) k [some b, some (.str n), some w] μ = k [some b, some (.str n), some w] μ := by
  have hg : good KW (.str n) = true := decide_eq_true hn
  rw [s_rSeq, s_rIfS, cT_ok a b w μ (.str n (kw_ok n hn)), hg]
  simp
theorem changed_bad (a : Ad) {p : Int} {b : Bool} {r : Rl} (hr : RlS r) (q : Str → Bool) {n : Str} (hn : n ∈ KW) {w : D} (hw : VOk w) (hp : PV (.int p) true) {f : Str} (hf : bad1 (updV (vR r) n w) PWs = some f) (μ : List Ob) :
    cu_Book_changed a [bookD a p (ruleD r) (wordsD q), .str n, w] μ = .exc (xr a f) μ := by
  refine pu_ex ⟨[some (bookD a p (ruleD r) (wordsD q)), some (.str n), some w], [.dead, .dct [.inr n] [w], .ins a.kBook [] []], ?_⟩ (by simp [xr, scL, D.sc])
  rw [r_chg]
  refine (chg_pass a _ hn w μ _).trans ?_
  have e := make_no a (δ := [some (bookD a p (ruleD r) (wordsD q)), some (.str n), some w]) hp (.full _ (updV_ok (vR_ok hr) n hw)) (.good q) (t := .rule f) (by rw [hf]; rfl) (cArgs_ok a p r (wordsD q) hn w μ)
  rw [s_rRet, e]
  simp [Flt.x]
theorem changed_ok (a : Ad) {p : Int} {r r' : Rl} (q : Str → Bool) {n : Str} (hn : n ∈ KW) {w : D} (hp : 2 ≤ p ∧ p ≤ 3) (Q : RlOk r') (he : ruleV (updV (vR r) n w) = ruleD r') (μ : List Ob) :
    cu_Book_changed a [bookD a p (ruleD r) (wordsD q), .str n, w] μ = .ok (bookD a p (ruleD r') (wordsD q)) μ := by
  refine pu_rt ⟨[.dead, .dct [.inr n] [w], .dead], ?_⟩ (sc_book a p r' q 0)
  rw [r_chg]
  refine (chg_pass a _ hn w μ _).trans ?_
  have c := cArgs_ok a p r (wordsD q) hn w μ
  rw [he] at c
  have e := make_ok a (δ := [some (bookD a p (ruleD r) (wordsD q)), some (.str n), some w]) (fs := cArgs a) Q hp c
  rw [s_rRet, e]
  simp
theorem f3_chg : (F3.any fun g => decide (g = "changed")) = false := by decide +kernel
theorem tried2 (a : Ad) (p : Int) (U W d w : D) (μ : List Ob) : tRow a [some (bookD a p U W), some .non, some d, some w, some .non, none] μ = cu_Book_changed a [bookD a p U W, d, w] μ := by
  unfold tRow
  rw [s_rIf]
  have e : rT (rBin isN (rVar 0) (rC .non)) [some (bookD a p U W), some .non, some d, some w, some .non, none] μ = .ok false μ := rfl
  rw [e]
  simp only [R.ok_bind]
  show rMeth a.kBook "changed" 2 (cu_Book_changed a) (rVar 0) (rCons (rVar 2) (rCons (rVar 3) rNil)) _ μ = _
  unfold rMeth
  show (if a.kBook = a.kBook ∧ (F3.any fun g => decide (g = "changed")) = false then _ else _) = _
  rw [if_pos ⟨rfl, f3_chg⟩]
  show (if 2 = 2 then cu_Book_changed a [bookD a p U W, d, w] μ else .bad) = _
  rw [if_pos rfl]
end
end LX

namespace LX
open PySem L2 DL
noncomputable section
theorem words_okd (q : Str → Bool) (n : Nat) : (wordsD q).okd (n + 1) = true := by
  unfold wordsD
  rw [D.okd]
  exact okd_strs n _ (fw_ok q)
theorem words_eqb (q : Str → Bool) : (wordsD q).eqb (wordsD q) = true := by
  unfold wordsD
  rw [D.eqb, eqbL_strs]
  simp
theorem eq0_words (q : Str → Bool) (μ : List Ob) : eq0 μ (wordsD q) (wordsD q) = some true := by
  unfold eq0
  rw [show (wordsD q).view μ = wordsD q from rfl, words_okd q 49, words_eqb]
  rfl
theorem eq0_ints (i j : Int) (μ : List Ob) : eq0 μ (.int i) (.int j) = some (decide (i = j)) := by
  unfold eq0
  simp only [vw_int, D.okd, Bool.and_self, if_true, D.eqb]
  congr 1
theorem eq0_rules (r q : Rl) (μ : List Ob) : eq0 μ (ruleD r) (ruleD q) = none := by
  unfold eq0
  have : (ruleD r).okd 50 = false := by simp [ruleD, D.okd]
  rw [show (ruleD r).view μ = ruleD r from rfl, this]
  rfl
theorem eq_tups (p p' : Int) {r r' : Rl} (h : RlS r) (h' : RlS r') (q : Str → Bool) (μ : List Ob) : eqG (.tup [.int p, ruleD r, wordsD q]) (.tup [.int p', ruleD r', wordsD q]) μ = .ok (.bl (decide (p = p') && rlEq r r')) μ := by
  have e0 : eqD (.tup [.int p, ruleD r, wordsD q]) (.tup [.int p', ruleD r', wordsD q]) μ = .bad := by
    unfold eqD
    have : (D.tup [.int p, ruleD r, wordsD q]).okd 60 = false := by simp [ruleD, D.okd, okdL]
    rw [show (D.tup [.int p, ruleD r, wordsD q]).view μ = .tup [.int p, ruleD r, wordsD q] from rfl, this]
    rfl
  have e1 : eq1 μ (.int p) (.int p') = some (decide (p = p')) := by
    unfold eq1
    rw [eq0_ints]
  have e2 : eq1 μ (ruleD r) (ruleD r') = some (rlEq r r') := by
    unfold eq1
    rw [eq0_rules]
    exact dct_rules h h' μ
  have e3 : eq1 μ (wordsD q) (wordsD q) = some true := by
    unfold eq1
    rw [eq0_words]
  have t : tupX μ (.tup [.int p, ruleD r, wordsD q]) (.tup [.int p', ruleD r', wordsD q]) = some (decide (p = p') && rlEq r r') := by
    show (if 3 = 3 then allO (eq1 μ) [.int p, ruleD r, wordsD q] [.int p', ruleD r', wordsD q] else none) = _
    rw [if_pos rfl, allO, e1]
    simp only
    rw [allO, e2]
    simp only
    rw [allO, e3]
    simp [allO]
  unfold eqG
  rw [e0]
  simp only
  rw [show (D.tup [.int p, ruleD r, wordsD q]).view μ = .tup [.int p, ruleD r, wordsD q] from rfl, show (D.tup [.int p', ruleD r', wordsD q]).view μ = .tup [.int p', ruleD r', wordsD q] from rfl, t]
abbrev qT (a : Ad) : RT := rNotT (rT (rCB (isiD (.ref a.kBook) (isKB a.kBook)) (rCons (rVar 1) (rCons (rC (.vv (.ref a.kBook))) rNil))))
abbrev q3 (a : Ad) (i : Nat) : RE := rTup (rCons (rFld a.kBook "highest" (rVar i)) (rCons (rFld a.kBook "terms" (rVar i)) (rCons (rFld a.kBook "kinds" (rVar i)) rNil)))
theorem r_eq (a : Ad) : r_Book_eq a = rSeq (rIfS (qT a) (rRet (rC (.bl false))) (fun δ μ => .nx δ μ)) (rRet (rBin eqG (q3 a 0) (q3 a 1))) := rfl
theorem q3_ok (a : Ad) (x y z : D) (i : Nat) (δ : Sl) (μ : List Ob) (h : δ[i]? = some (some (.ins a.kBook F3 [x, y, z]))) : q3 a i δ μ = .ok (.tup [x, y, z]) μ := by
  have v : ∀ μ, rVar i δ μ = .ok (.ins a.kBook F3 [x, y, z]) μ := fun μ => by rw [s_rVar, h]
  have e1 : ∀ μ, rFld a.kBook "highest" (rVar i) δ μ = .ok x μ := fun μ => by rw [s_rFld, v]; exact fld_h a x y z μ
  have e2 : ∀ μ, rFld a.kBook "terms" (rVar i) δ μ = .ok y μ := fun μ => by rw [s_rFld, v]; exact fld_t a x y z μ
  have e3 : ∀ μ, rFld a.kBook "kinds" (rVar i) δ μ = .ok z μ := fun μ => by rw [s_rFld, v]; exact fld_k a x y z μ
  unfold q3
  simp [-s_rFld, e1, e2, e3]
theorem eq_ok (a : Ad) (p p' : Int) {r r' : Rl} (h : RlS r) (h' : RlS r') (q : Str → Bool) (μ : List Ob) : cq_Book a [bookD a p (ruleD r) (wordsD q), bookD a p' (ruleD r') (wordsD q)] μ = .ok (.bl (decide (p = p') && rlEq r r')) μ := by
  refine pu_rt ⟨[], ?_⟩ (by simp [D.sc])
  rw [r_eq, List.append_nil]
  show rSeq _ _ [some (bookD a p (ruleD r) (wordsD q)), some (bookD a p' (ruleD r') (wordsD q))] μ = _
  have c : qT a [some (bookD a p (ruleD r) (wordsD q)), some (bookD a p' (ruleD r') (wordsD q))] μ = .ok false μ := by
    have : isiD (.ref a.kBook) (isKB a.kBook) [bookD a p' (ruleD r') (wordsD q), .vv (.ref a.kBook)] μ = .ok (.bl true) μ := by
      have e : isKB a.kBook ((bookD a p' (ruleD r') (wordsD q)).view μ) = some true := if_pos rfl
      simp [isiD, e]
    simp [this]
  rw [s_rSeq, s_rIfS, c]
  simp only [R.ok_st]
  rw [s_rRet, s_rBin, q3_ok a _ _ _ 0 _ μ rfl]
  simp only [R.ok_bind]
  rw [q3_ok a _ _ _ 1 _ μ rfl]
  simp only [R.ok_bind]
  rw [eq_tups p p' h h' q μ]
  rfl
theorem eq_row (a : Ad) (b : D) (xs : List D) (μ : List Ob) : cq_Book a [b, .lst xs] μ = .ok (.bl false) μ := by
  refine pu_rt ⟨[], ?_⟩ (by simp [D.sc])
  rw [r_eq, List.append_nil]
  show rSeq _ _ [some b, some (.lst xs)] μ = _
  have c : qT a [some b, some (.lst xs)] μ = .ok true μ := by
    have : isiD (.ref a.kBook) (isKB a.kBook) [.lst xs, .vv (.ref a.kBook)] μ = .ok (.bl false) μ := by
      simp [isiD, isKB, D.tyS]
    simp [this]
  rw [s_rSeq, s_rIfS, c]
  simp
theorem own_ok (a : Ad) (p p' : Int) {r r' : Rl} (h : RlS r) (h' : RlS r') (q : Str → Bool) (μ : List Ob) : ownD a.kBook (cq_Book a) (bookD a p (ruleD r) (wordsD q)) (bookD a p' (ruleD r') (wordsD q)) μ = .ok (.bl (decide (p = p') && rlEq r r')) μ := by
  have e := eq_ok a p p' h h' q μ
  unfold ownD
  show (if a.kBook = a.kBook ∧ a.kBook = a.kBook then (match cq_Book a [bookD a p (ruleD r) (wordsD q), bookD a p' (ruleD r') (wordsD q)] μ with
    | DL.R.ok (D.bl k) μ1 => DL.R.ok (D.bl k) μ1
    | _ => .bad) else .bad) = _
  rw [if_pos ⟨rfl, rfl⟩, e]
theorem ownL_ok (a : Ad) (p : Int) (U W : D) (xs : List D) (μ : List Ob) : ownL a.kBook (cq_Book a) (bookD a p U W) (.lst xs) μ = .ok (.bl false) μ := by
  have e := eq_row a (bookD a p U W) xs μ
  unfold ownL
  show (if a.kBook = a.kBook then (match cq_Book a [bookD a p U W, .lst xs] μ with
    | DL.R.ok (D.bl k) μ1 => DL.R.ok (D.bl k) μ1
    | _ => .bad) else .bad) = _
  rw [if_pos rfl, e]
/-! ### the properties -/
theorem prices_ok (a : Ad) (p : Int) (U W : D) (μ : List Ob) : cp_Book_prices a [bookD a p U W] μ = .ok (.int p) μ := by
  refine pu_rt ⟨[], ?_⟩ (by simp [D.sc])
  unfold r_Book_p_prices
  show rRet _ [some (bookD a p U W)] μ = _
  have e := fld_h a (.int p) U W μ
  simp [bookD, e]
theorem words_p_ok (a : Ad) (p : Int) (U : D) (q : Str → Bool) (μ : List Ob) : cp_Book_words a [bookD a p U (wordsD q)] μ = .ok (wordsD q) μ := by
  refine pu_rt ⟨[], ?_⟩ (by simp [wordsD, D.sc, sc_strs])
  unfold r_Book_p_words
  show rRet _ [some (bookD a p U (wordsD q))] μ = _
  have e := fld_k a (.int p) U (wordsD q) μ
  simp [bookD, e]
theorem rule_p_ok (a : Ad) (p : Int) (r : Rl) (W : D) (μ : List Ob) : cp_Book_rule a [bookD a p (ruleD r) W] μ = .ok (ruleD r) μ := by
  refine pu_rt ⟨[.dead], ?_⟩ (by simp [ruleD, D.sc, scL])
  unfold r_Book_p_rule
  show rRet (rFrz (rCB dictD (rCons (rFld a.kBook "terms" (rVar 0)) rNil))) [some (bookD a p (ruleD r) W)] μ = _
  have e := fld_t a (.int p) (ruleD r) W μ
  have e1 : rCB dictD (rCons (rFld a.kBook "terms" (rVar 0)) rNil) [some (bookD a p (ruleD r) W)] μ = .ok (.loc μ.length) (μ ++ [.dct K6 (rl6 r)]) := by
    have : dictD [ruleD r] μ = .ok (.loc μ.length) (μ ++ [.dct K6 (rl6 r)]) := rfl
    simp [bookD, e, this]
  have e2 : rFrz (rCB dictD (rCons (rFld a.kBook "terms" (rVar 0)) rNil)) [some (bookD a p (ruleD r) W)] μ = .ok (ruleD r) (μ ++ [.dead]) := by
    unfold rFrz
    rw [e1]
    have g : (μ ++ [Ob.dct K6 (rl6 r)])[μ.length]? = some (.dct K6 (rl6 r)) := by simp
    simp only [R.ok_bind, g]
    have : (μ ++ [Ob.dct K6 (rl6 r)]).set μ.length .dead = μ ++ [.dead] := by simp
    rw [this]
    rfl
  rw [s_rRet, e2]
  rfl
theorem ne_rules (r : Rl) (μ : List Ob) : neG (ruleD r) (ruleD r) μ = .ok (.bl false) μ := by
  have e0 : neD (ruleD r) (ruleD r) μ = .bad := by
    unfold neD
    have : (ruleD r).okd 60 = false := by simp [ruleD, D.okd]
    rw [show (ruleD r).view μ = ruleD r from rfl, this]
    rfl
  have z : ∀ (k : Key) (ks : List Key) (x : Str) (xs ys : List D), lookD K6 ys k = some (.str x) → sameK K6 ys ks xs = true → sameK K6 ys (k :: ks) (.str x :: xs) = true := by
    intro k ks x xs ys h1 h2
    rw [sameK, h1, h2]
    simp [sameA]
  have s : sameK K6 (rl6 r) K6 (rl6 r) = true := z _ _ _ _ _ (lk0 ..) (z _ _ _ _ _ (lk1 ..) (z _ _ _ _ _ (lk2 ..) (z _ _ _ _ _ (lk3 ..) (z _ _ _ _ _ (lk4 ..) (z _ _ _ _ _ (lk5 ..) rfl)))))
  unfold neG
  rw [e0]
  show (if K6.length = K6.length ∧ sameK K6 (rl6 r) K6 (rl6 r) = true then DL.R.ok (D.bl false) μ else .bad) = _
  rw [if_pos ⟨rfl, s⟩]
end
end LX

namespace LX
open PySem L2 DL
noncomputable section
abbrev y1 (a : Ad) : RS := rSet 3 (rCall 1 (ct__law_draw a) (rCons (rVar 1) rNil))
abbrev y2 (a : Ad) : RS := rAsgD (gSt (rVar 3) (rC (.int 0))) (rBin addD (rC (.int 2)) (rCall 2 (ct__law_next a) (rCons (rVar 1) (rCons (rC (.int 2)) rNil))))
abbrev y3 (a : Ad) : RS := rSet 3 (rCall 2 (ct__law_spoiled a) (rCons (rVar 1) (rCons (rVar 3) rNil)))
abbrev y4 (a : Ad) : RS := rPar 4 5 (rCons (rCall 4 (ct__law_tried a) (rCons (rC .non) (rCons (rVar 3) (rCons (rC .non) (rCons (rC .non) rNil))))) (rCons (rCall 1 (ct__law_fault a) (rCons (rVar 3) rNil)) rNil))
abbrev y5 (a : Ad) : RS := rIfS (rNotT (rT (rCall 2 (ct__law_alike a) (rCons (rVar 4) (rCons (rVar 5) rNil))))) (rRet (rC (.bl false))) (fun δ μ => .nx δ μ)
abbrev y6 (a : Ad) : RS := rIfS (rNotT (rT (rCall 2 (ct__law_alike a) (rCons (rLst (rCons (rProp a.kBook (cp_Book_prices a) (rVar 4)) (rCons (rProp a.kBook (cp_Book_rule a) (rVar 4)) (rCons (rProp a.kBook (cp_Book_words a) (rVar 4)) rNil)))) (rCons (rVar 3) rNil))))) (rRet (rC (.bl false))) (fun δ μ => .nx δ μ)
abbrev y7a (a : Ad) : RT := rNotT (rT (rBin (ownD a.kBook (cq_Book a)) (rVar 4) (rCall 1 (ct__law_built a) (rCons (rVar 3) rNil))))
abbrev y7b (a : Ad) : RT := rT (rBin (ownL a.kBook (cq_Book a)) (rVar 4) (rVar 3))
abbrev y7g (a : Ad) : RA := rCons (rBin subD (rC (.int 5)) (rBin getD (rVar 3) (rC (.int 0)))) (rCons (rBin getD (rVar 3) (rC (.int 1))) (rCons (rBin getD (rVar 3) (rC (.int 2))) rNil))
abbrev y7c (a : Ad) : RT := rT (rBin (ownD a.kBook (cq_Book a)) (rVar 4) (rMakeX a.kBook 3 (cm_Book a) (y7g a)))
abbrev y7 (a : Ad) : RS := rIfS (rOrT (y7a a) (rOrT (y7b a) (y7c a))) (rRet (rC (.bl false))) (fun δ μ => .nx δ μ)
abbrev y8 (a : Ad) : RS := rSet 6 (rCall 2 (ct__law_pick a) (rCons (rVar 1) (rCons (rBin addD (rLc (rItems (fun _ μ => noX (ct__law_parts a [] μ))) (.nm 9) (([("_law_some", 9)] : List (Str × Nat)).map (·.2)) rYes (rBin getD (rVar 9) (rC (.int 0)))) (rLst (rCons (rC (.str "")) (rCons (rC (.str "prices")) (rCons (rC .non) (rCons (rC (.int 5)) (rCons (rC (.str "words")) (rCons (rLst (rCons (rC (.str "lost")) rNil)) rNil)))))))) rNil)))
abbrev y9 (a : Ad) : RS := rSet 7 (rCall 2 (ct__law_pick a) (rCons (rVar 1) (rCons (rLst (rCons (rC (.str "comes")) (rCons (rC (.str "fits")) (rCons (rC (.str "looks")) (rCons (rC (.str "sends")) (rCons (rC (.str "again")) (rCons (rC (.str "noted")) (rCons (rC (.str "price")) (rCons (rC (.str "keeps")) (rCons (rC (.str "now")) (rCons (rC .non) (rCons (rC (.int 0)) rNil)))))))))))) rNil)))
abbrev y10 (a : Ad) : RS := rSet 8 (rCall 4 (ct__law_tried a) (rCons (rVar 4) (rCons (rC .non) (rCons (rVar 6) (rCons (rVar 7) rNil)))))
abbrev y11t (a : Ad) : RT := rOrT (rNotT (rT (rCB (isiD (.ty "str") (isT "str")) (rCons (rVar 6) (rCons (rC (.vv (.ty "str"))) rNil))))) (rT (rBin (inD true) (rVar 6) (rBin getD (rVar 3) (rC (.int 1)))))
abbrev yWith (a : Ad) : RE := rCall 3 (ct__law_with a) (rCons (rBin getD (rVar 3) (rC (.int 1))) (rCons (rVar 6) (rCons (rVar 7) rNil)))
abbrev y11a (a : Ad) : RS := rIfS (rNotT (rT (rCall 2 (ct__law_alike a) (rCons (rVar 8) (rCons (rTup (rCons (rC (.str "rule")) (rCons (rC (.str "")) rNil))) rNil))))) (rRet (rC (.bl false))) (fun δ μ => .nx δ μ)
abbrev y11b (a : Ad) : RS := rIfS (rT (rBin neD (rVar 8) (rTup (rCons (rC (.str "rule")) (rCons (rVar 6) rNil))))) (rRet (rC (.bl false))) (fun δ μ => .nx δ μ)
abbrev y11ct (a : Ad) : RT := rOrT (rT (rBin neG (rProp a.kBook (cp_Book_rule a) (rVar 8)) (yWith a))) (rOrT (rT (rBin neD (rProp a.kBook (cp_Book_prices a) (rVar 8)) (rBin getD (rVar 3) (rC (.int 0))))) (rT (rBin neD (rProp a.kBook (cp_Book_words a) (rVar 8)) (rBin getD (rVar 3) (rC (.int 2))))))
abbrev y11d (a : Ad) : RS := rIfS (rT (rBin neD (rBin (ownD a.kBook (cq_Book a)) (rVar 8) (rVar 4)) (rBin eqD (rVar 7) (rBin getD (rBin getD (rVar 3) (rC (.int 1))) (rVar 6))))) (rRet (rC (.bl false))) (fun δ μ => .nx δ μ)
abbrev y11 (a : Ad) : RS := rIfS (y11t a) (y11a a) (rIfS (rT (rBin isNotN (rCall 1 (ct__law_rule_fault a) (rCons (yWith a) rNil)) (rC .non))) (y11b a) (rIfS (y11ct a) (rRet (rC (.bl false))) (y11d a)))
abbrev yB (a : Ad) : RS := rSeq (y1 a) (rSeq (y2 a) (rSeq (y3 a) (rSeq (y4 a)
    (rIfS (rT (rBin isNotN (rVar 5) (rC .non))) (y5 a) (rSeq (y6 a) (rSeq (y7 a) (rSeq (y8 a) (rSeq (y9 a) (rSeq (y10 a) (y11 a))))))))))
theorem r_lw (a : Ad) : r_law a = rSeq (rSet 1 (rCall 2 (ct__law_mix a) (rCons (rVar 0) (rCons (rC (.int 1)) rNil)))) (rSeq (rFor (rRange1 (rCons (rC (.int 6)) rNil)) (.nm 2) (yB a)) (rRet (rC (.bl true)))) := rfl
theorem flt_none {b bw : Bool} {f : Option Str} (h : fltOf b f bw = none) : b = true ∧ f = none ∧ bw = true := by
  cases b with
  | false => cases h
  | true =>
    cases f with
    | some p => cases h
    | none =>
      cases bw with
      | false => cases h
      | true => exact ⟨rfl, rfl, rfl⟩
theorem pv_true {P : D} (h : PV P true) : ∃ p : Int, P = .int p ∧ 2 ≤ p ∧ p ≤ 3 := by
  cases h
  · exact ⟨2, rfl, by decide, by decide⟩
  · exact ⟨3, rfl, by decide, by decide⟩
theorem rf_none {U : D} {f : Option Str} (h : RF U f) (hf : f = none) : ∃ r, RlOk r ∧ U = ruleD r := by
  cases h with
  | odd _ h => cases hf
  | few ks xs h hl he hx => cases hf
  | full v h => exact rl_of hf
theorem wv_true {W : D} (h : WV W true) : ∃ q, W = wordsD q := by
  cases h with
  | good q => exact ⟨q, rfl⟩
theorem pl_row (p : Int) {r : Rl} (h : RlOk r) (q : Str → Bool) : Pl 3 (.lst [.int p, ruleD r, wordsD q]) := by
  refine .inr (.inl ⟨_, .inr rfl, by simp, fun x hx => ?_⟩)
  simp only [List.mem_cons, List.not_mem_nil, or_false] at hx
  rcases hx with rfl | rfl | rfl
  · exact .inl rfl
  · exact .inr (.inr ⟨0, r, rfl, h, rfl⟩)
  · refine .inr (.inl ⟨_, .inl rfl, ?_, fun y hy => ?_⟩)
    · rw [List.length_map]
      exact Nat.lt_of_le_of_lt (List.length_filter_le q W6) (by decide)
    · obtain ⟨w, hw, rfl⟩ := List.mem_map.mp hy
      exact .inl (fw_ok q w hw)
theorem flt_pl (t : Flt) (h : ∀ p, t = .rule p → PyData.strOk p = true) : Pl 3 t.d := by
  have o1 : PyData.strOk "prices" = true := by decide +kernel
  have o2 : PyData.strOk "words" = true := by decide +kernel
  have o3 : PyData.strOk "rule" = true := by decide +kernel
  cases t with
  | prices => exact .inl o1
  | words => exact .inl o2
  | rule p =>
    refine .inr (.inl ⟨_, .inl rfl, by simp, fun x hx => ?_⟩)
    simp only [List.mem_cons, List.not_mem_nil, or_false] at hx
    rcases hx with rfl | rfl
    · exact .inl o3
    · exact .inl (h p rfl)
theorem bad_kw {v : Str → D} {g : Str} : ∀ {ps : List (Str × List Str)}, (∀ p ∈ ps, p ∈ PWs) → bad1 v ps = some g → g ∈ KW
  | [], _, h => by cases h
  | p :: ps, hp, h => by
    rw [bad1] at h
    by_cases hf : fit v p = true
    · rw [if_pos hf] at h
      exact bad_kw (fun q hq => hp q (List.mem_cons_of_mem _ hq)) h
    · rw [if_neg hf] at h
      cases h
      exact pw_kw p (hp p List.mem_cons_self)
theorem ok_em : PyData.strOk "" = true := by decide +kernel
theorem rf_str {U : D} {f : Option Str} (h : RF U f) : ∀ p, f = some p → PyData.strOk p = true := fun p e => by
  cases h with
  | odd _ h => cases e; exact ok_em
  | few ks xs h hl he hx => cases e; exact ok_em
  | full v h => exact kw_ok p (bad_kw (fun q hq => hq) e)
theorem flt_str {b bw : Bool} {U : D} {f : Option Str} (hU : RF U f) {t : Flt} (h : fltOf b f bw = some t) : ∀ p, t = .rule p → PyData.strOk p = true := fun p e => by
  subst e
  cases b with
  | false => cases h
  | true =>
    cases f with
    | some g => cases h; exact rf_str hU _ rfl
    | none => cases bw <;> cases h
end
end LX

namespace LX
open PySem L2 DL
noncomputable section
abbrev sA (c0 c2 c3 c4 c5 c6 c7 c8 c9 : Option D) : Sl := [c0, some (.loc 1), c2, c3, c4, c5, c6, c7, c8, c9]
theorem y123 (a : Ad) (k : RS) (s : Src) (j : List Ob) (c0 c2 c3 c4 c5 c6 c7 c8 c9 : Option D) : ∃ s' j' P b U f W bw, PV P b ∧ RF U f ∧ WV W bw ∧
    rSeq (y1 a) (rSeq (y2 a) (rSeq (y3 a) k)) (sA c0 c2 c3 c4 c5 c6 c7 c8 c9) (src s ++ j) = k (sA c0 c2 (some (.lst [P, U, W])) c4 c5 c6 c7 c8 c9) (src s' ++ j') := by
  obtain ⟨r, q, s1, hr, e1⟩ := draw_ok a s j
  have e1' : ct__law_draw a [.loc 1] (src s ++ j) = .ok (.loc (nR j)) (st s1 j (.dct K6 (rl6 r)) (.int 2) (.loc (2 + j.length)) (wordsD q) []) := e1
  have e2 := st_next a s1 j (.dct K6 (rl6 r)) (.int 2) (.loc (2 + j.length)) (wordsD q) [] 2 (by decide) (by decide)
  obtain ⟨v0, v1⟩ := next_rng s1 (cap := 2) (by decide)
  generalize s1.next 2 = z at e2 v0 v1
  have p := put0 z.2 j (.dct K6 (rl6 r)) (.int 2) (.loc (2 + j.length)) (wordsD q) [] (.int (2 + z.1))
  have hI : Iv j 0 (.dct K6 (rl6 r)) (.int (2 + z.1)) (.loc (2 + j.length)) (wordsD q) [] := by
    refine ⟨?_, ?_, ⟨true, .good q⟩, ?_⟩
    · have : z.1 = 0 ∨ z.1 = 1 := by omega
      rcases this with h | h
      · rw [h]; exact ⟨true, .two⟩
      · rw [h]; exact ⟨true, .three⟩
    · exact .orig (vR r) (vR_ok hr.str) (by rw [vR_map])
    · intro n
      rw [← vR_map]
      exact ob_full (vR_ok hr.str) n
  obtain ⟨s2, X, P, b, U, f, W, bw, h1, h2, h3, e3⟩ := spoil_ok a z.2 j (.dct K6 (rl6 r)) (.int (2 + z.1)) (.loc (2 + j.length)) (wordsD q) hI
  refine ⟨s2, j ++ [X, .dead], P, b, U, f, W, bw, h1, h2, h3, ?_⟩
  have t1 : y1 a (sA c0 c2 c3 c4 c5 c6 c7 c8 c9) (src s ++ j) = .nx (sA c0 c2 (some (.loc (nR j))) c4 c5 c6 c7 c8 c9) (st s1 j (.dct K6 (rl6 r)) (.int 2) (.loc (2 + j.length)) (wordsD q) []) := by
    simp [e1']
  have t2 : y2 a (sA c0 c2 (some (.loc (nR j))) c4 c5 c6 c7 c8 c9) (st s1 j (.dct K6 (rl6 r)) (.int 2) (.loc (2 + j.length)) (wordsD q) []) = .nx (sA c0 c2 (some (.loc (nR j))) c4 c5 c6 c7 c8 c9) (st z.2 j (.dct K6 (rl6 r)) (.int (2 + z.1)) (.loc (2 + j.length)) (wordsD q) []) := by
    simp [e2, p]
  have t3 : y3 a (sA c0 c2 (some (.loc (nR j))) c4 c5 c6 c7 c8 c9) (st z.2 j (.dct K6 (rl6 r)) (.int (2 + z.1)) (.loc (2 + j.length)) (wordsD q) []) = .nx (sA c0 c2 (some (.lst [P, U, W])) c4 c5 c6 c7 c8 c9) (src s2 ++ (j ++ [X, .dead])) := by
    simp [e3]
  rw [s_rSeq, t1]
  simp only
  rw [s_rSeq, t2]
  simp only
  rw [s_rSeq, t3]
/-- a row at fault -/
theorem turn_bad (a : Ad) (k : RS) {P U W : D} {b bw : Bool} {f : Option Str} {t : Flt} (hP : PV P b) (hU : RF U f) (hW : WV W bw) (h : fltOf b f bw = some t) (μ : List Ob) (c0 c2 c4 c5 c6 c7 c8 c9 : Option D) :
    rSeq (y4 a) (rIfS (rT (rBin isNotN (rVar 5) (rC .non))) (y5 a) k) (sA c0 c2 (some (.lst [P, U, W])) c4 c5 c6 c7 c8 c9) μ = .nx (sA c0 c2 (some (.lst [P, U, W])) (some t.d) (some t.d) c6 c7 c8 c9) μ := by
  have e1 := tried_no a μ hP hU hW h
  have e2 := fault_ok a μ hP hU hW
  rw [h] at e2
  have e2' : ct__law_fault a [.lst [P, U, W]] μ = .ok t.d μ := e2
  have e3 := alike_ok a (flt_pl t (flt_str hU h)) μ
  have t4 : y4 a (sA c0 c2 (some (.lst [P, U, W])) c4 c5 c6 c7 c8 c9) μ = .nx (sA c0 c2 (some (.lst [P, U, W])) (some t.d) (some t.d) c6 c7 c8 c9) μ := by
    simp [e1, e2']
  have t5 : rT (rBin isNotN (rVar 5) (rC .non)) (sA c0 c2 (some (.lst [P, U, W])) (some t.d) (some t.d) c6 c7 c8 c9) μ = .ok true μ := by
    cases t <;> rfl
  rw [s_rSeq, t4]
  simp only
  rw [s_rIfS, t5]
  simp [e3]
/-- a row that is whole -/
theorem turn_good (a : Ad) (k : RS) {p : Int} {r : Rl} (q : Str → Bool) (hp : 2 ≤ p ∧ p ≤ 3) (hr : RlOk r) (μ : List Ob) (c0 c2 c4 c5 c6 c7 c8 c9 : Option D) :
    rSeq (y4 a) (rIfS (rT (rBin isNotN (rVar 5) (rC .non))) (y5 a) (rSeq (y6 a) (rSeq (y7 a) k))) (sA c0 c2 (some (.lst [.int p, ruleD r, wordsD q])) c4 c5 c6 c7 c8 c9) μ =
      k (sA c0 c2 (some (.lst [.int p, ruleD r, wordsD q])) (some (bookD a p (ruleD r) (wordsD q))) (some .non) c6 c7 c8 c9) (μ ++ [.dead]) := by
  have e1 := tried_yes a q μ hr hp
  have hPV : PV (.int p) true := by
    have : p = 2 ∨ p = 3 := by omega
    rcases this with rfl | rfl
    · exact .two
    · exact .three
  have hf : ∃ f, RF (ruleD r) f ∧ f = none := by
    refine ⟨bad1 (vR r) PWs, by rw [← vR_rule]; exact .full _ (vR_ok hr.str), ?_⟩
    have e := check_ok a [] hr
    have e' := check_any a [] (.full (vR r) (vR_ok hr.str))
    rw [vR_rule, e] at e'
    cases hb : bad1 (vR r) PWs with
    | none => rfl
    | some g => rw [hb] at e'; cases e'
  obtain ⟨f, hf1, rfl⟩ := hf
  have e2 := fault_ok a μ hPV hf1 (.good q)
  have e2' : ct__law_fault a [.lst [.int p, ruleD r, wordsD q]] μ = .ok .non μ := e2
  have t4 : y4 a (sA c0 c2 (some (.lst [.int p, ruleD r, wordsD q])) c4 c5 c6 c7 c8 c9) μ = .nx (sA c0 c2 (some (.lst [.int p, ruleD r, wordsD q])) (some (bookD a p (ruleD r) (wordsD q))) (some .non) c6 c7 c8 c9) μ := by
    simp [e1, e2']
  generalize hδ : sA c0 c2 (some (.lst [.int p, ruleD r, wordsD q])) (some (bookD a p (ruleD r) (wordsD q))) (some .non) c6 c7 c8 c9 = δ at t4 ⊢
  have d3 : δ[3]? = some (some (.lst [.int p, ruleD r, wordsD q])) := by rw [← hδ]; rfl
  have d4 : δ[4]? = some (some (bookD a p (ruleD r) (wordsD q))) := by rw [← hδ]; rfl
  have d5 : δ[5]? = some (some .non) := by rw [← hδ]; rfl
  have p1 := prices_ok a p (ruleD r) (wordsD q) μ
  have p2 := rule_p_ok a p r (wordsD q) μ
  have p3 := words_p_ok a p (ruleD r) q μ
  have w1 : rProp a.kBook (cp_Book_prices a) (rVar 4) δ μ = .ok (.int p) μ := by
    unfold rProp
    rw [s_rVar, d4]
    show (if a.kBook = a.kBook then noX (cp_Book_prices a [bookD a p (ruleD r) (wordsD q)] μ) else .bad) = _
    rw [if_pos rfl, p1]
    rfl
  have w2 : rProp a.kBook (cp_Book_rule a) (rVar 4) δ μ = .ok (ruleD r) μ := by
    unfold rProp
    rw [s_rVar, d4]
    show (if a.kBook = a.kBook then noX (cp_Book_rule a [bookD a p (ruleD r) (wordsD q)] μ) else .bad) = _
    rw [if_pos rfl, p2]
    rfl
  have w3 : rProp a.kBook (cp_Book_words a) (rVar 4) δ μ = .ok (wordsD q) μ := by
    unfold rProp
    rw [s_rVar, d4]
    show (if a.kBook = a.kBook then noX (cp_Book_words a [bookD a p (ruleD r) (wordsD q)] μ) else .bad) = _
    rw [if_pos rfl, p3]
    rfl
  have al := alike_ok a (pl_row p hr q) μ
  have t6 : y6 a δ μ = .nx δ μ := by
    unfold y6
    rw [s_rIfS, s_rNotT, s_rT, s_rCall, s_rCons, s_rLst, s_rCons, w1]
    simp only [R.ok_bind]
    rw [s_rCons, w2]
    simp only [R.ok_bind]
    rw [s_rCons, w3]
    simp [d3, al]
  have o1 := own_ok a p p hr.str hr.str q μ
  rw [rlEq_self] at o1
  have b1 := built_ok a q μ hr hp
  have t7a : y7a a δ μ = .ok false μ := by
    simp [d3, d4, b1, o1]
  have o2 := ownL_ok a p (ruleD r) (wordsD q) [.int p, ruleD r, wordsD q] μ
  have t7b : y7b a δ μ = .ok false μ := by
    simp [d3, d4, o2]
  have g7 : y7g a δ μ = .ok [.int (5 - p), ruleD r, wordsD q] μ := by
    simp [d3]
  have m7 := make_ok a (q := q) (δ := δ) (fs := y7g a) hr (p := 5 - p) (by omega) g7
  have o3 := own_ok a p (5 - p) hr.str hr.str q (μ ++ [.dead])
  have np : ¬ (p = 5 - p) := by omega
  rw [decide_eq_false np, Bool.false_and] at o3
  have t7c : y7c a δ μ = .ok false (μ ++ [.dead]) := by
    unfold y7c
    rw [s_rT, s_rBin, s_rVar, d4]
    simp only [R.ok_bind]
    rw [m7]
    simp only [R.ok_bind]
    rw [o3]
    rfl
  have t7 : y7 a δ μ = .nx δ (μ ++ [.dead]) := by
    unfold y7
    rw [s_rIfS, s_rOrT, t7a]
    simp only [R.ok_bind]
    rw [s_rOrT, t7b]
    simp only [R.ok_bind]
    rw [t7c]
    rfl
  rw [s_rSeq, t4]
  simp only
  have t5 : rT (rBin isNotN (rVar 5) (rC .non)) δ μ = .ok false μ := by
    simp [d5, isNotN]
  rw [s_rIfS, t5]
  simp only [R.ok_st]
  rw [s_rSeq, t6]
  simp only
  rw [s_rSeq, t7]
end
end LX

namespace LX
open PySem L2 DL
noncomputable section
def pOth : List D := [.str "", .str "prices", .non, .int 5, .str "words", .lst [.str "lost"]]
def pL : List D := KW.map D.str ++ pOth
def wL : List D := [.str "comes", .str "fits", .str "looks", .str "sends", .str "again", .str "noted", .str "price", .str "keeps", .str "now", .non, .int 0]
theorem okw2 : ∀ w ∈ (["", "prices", "words", "lost", "comes", "fits", "looks", "sends", "again", "noted", "price", "keeps", "now"] : List Str), PyData.strOk w = true := by decide +kernel
theorem pL_ok {d : D} (h : d ∈ pL) : VOk d := by
  rcases List.mem_append.mp h with h | h
  · obtain ⟨w, hw, rfl⟩ := List.mem_map.mp h
    exact .str w (kw_ok w hw)
  · simp only [pOth, List.mem_cons, List.not_mem_nil, or_false] at h
    rcases h with rfl | rfl | rfl | rfl | rfl | rfl
    · exact .str _ (okw2 _ (by simp))
    · exact .str _ (okw2 _ (by simp))
    · exact .non
    · exact .int 5
    · exact .str _ (okw2 _ (by simp))
    · exact .lst _ (okw2 _ (by simp))
theorem wL_ok {d : D} (h : d ∈ wL) : VOk d := by
  simp only [wL, List.mem_cons, List.not_mem_nil, or_false] at h
  rcases h with rfl | rfl | rfl | rfl | rfl | rfl | rfl | rfl | rfl | rfl | rfl
  all_goals first
    | exact .str _ (okw2 _ (by simp))
    | exact .non
    | exact .int 0
theorem y89 (a : Ad) (k : RS) (s : Src) (j : List Ob) (c0 c2 c3 c4 c5 c6 c7 c8 c9 : Option D) : ∃ s' d w, VOk d ∧ VOk w ∧
    rSeq (y8 a) (rSeq (y9 a) k) (sA c0 c2 c3 c4 c5 c6 c7 c8 c9) (src s ++ j) = k (sA c0 c2 c3 c4 c5 (some d) (some w) c8 c9) (src s' ++ j) := by
  have e1 := pick_ok a s j pL (by decide) (by decide) (by simp [pL, pOth, KW, scL, D.sc])
  have m1 := pick_mem s (xs := pL) (by decide)
  have e2 := pick_ok a (s.pick pL).2 j wL (by decide) (by decide) (by simp [wL, scL, D.sc])
  have m2 := pick_mem (s.pick pL).2 (xs := wL) (by decide)
  refine ⟨((s.pick pL).2.pick wL).2, (s.pick pL).1, ((s.pick pL).2.pick wL).1, pL_ok m1, wL_ok m2, ?_⟩
  have c := comp_t (t := .nm 9) (vs := [9]) (ft := rYes) (fe := rBin getD (rVar 9) (rC (.int 0))) (δ := sA c0 c2 c3 c4 c5 c6 c7 c8 c9) (μ := src s ++ j) row (fun _ => true) (fun p => .str p.1) PWs [] (by decide) fun p hp => by
    refine ⟨_, rfl, rfl, fun _ => ?_⟩
    unfold row
    simp [wipeD]
  rw [List.nil_append, List.filter_eq_self.mpr (fun _ _ => rfl)] at c
  have c' : (PWs.map fun p => D.str p.1) = KW.map D.str := rfl
  rw [c'] at c
  have l1 : rLc (rItems (fun _ μ => noX (ct__law_parts a [] μ))) (.nm 9) (([("_law_some", 9)] : List (Str × Nat)).map (·.2)) rYes (rBin getD (rVar 9) (rC (.int 0))) (sA c0 c2 c3 c4 c5 c6 c7 c8 c9) (src s ++ j) = .ok (.lst (KW.map D.str)) (src s ++ j) := by
    have hi : rItems (fun _ μ => noX (ct__law_parts a [] μ)) (sA c0 c2 c3 c4 c5 c6 c7 c8 c9) (src s ++ j) = .ok (PWs.map row) (src s ++ j) := by
      unfold rItems
      simp only [parts_ok, noX, R.ok_bind, itemsD]
    rw [s_rLc, hi]
    simp only [R.ok_bind, List.map_cons, List.map_nil]
    rw [c]
    rfl
  have a1 : rBin addD (rLc (rItems (fun _ μ => noX (ct__law_parts a [] μ))) (.nm 9) (([("_law_some", 9)] : List (Str × Nat)).map (·.2)) rYes (rBin getD (rVar 9) (rC (.int 0)))) (rLst (rCons (rC (.str "")) (rCons (rC (.str "prices")) (rCons (rC .non) (rCons (rC (.int 5)) (rCons (rC (.str "words")) (rCons (rLst (rCons (rC (.str "lost")) rNil)) rNil))))))) (sA c0 c2 c3 c4 c5 c6 c7 c8 c9) (src s ++ j) = .ok (.lst pL) (src s ++ j) := by
    rw [s_rBin, l1]
    simp only [R.ok_bind]
    have : addD (.lst (KW.map D.str)) (.lst pOth) (src s ++ j) = .ok (.lst pL) (src s ++ j) := by
      simp [pL, pOth, KW]
    have e : rLst (rCons (rC (.str "")) (rCons (rC (.str "prices")) (rCons (rC .non) (rCons (rC (.int 5)) (rCons (rC (.str "words")) (rCons (rLst (rCons (rC (.str "lost")) rNil)) rNil)))))) (sA c0 c2 c3 c4 c5 c6 c7 c8 c9) (src s ++ j) = .ok (.lst pOth) (src s ++ j) := by
      simp [pOth]
    rw [e]
    exact this
  have t8 : y8 a (sA c0 c2 c3 c4 c5 c6 c7 c8 c9) (src s ++ j) = .nx (sA c0 c2 c3 c4 c5 (some (s.pick pL).1) c7 c8 c9) (src (s.pick pL).2 ++ j) := by
    unfold y8
    rw [s_rSet, s_rCall, s_rCons, show rVar 1 (sA c0 c2 c3 c4 c5 c6 c7 c8 c9) (src s ++ j) = .ok (.loc 1) (src s ++ j) from rfl]
    simp only [R.ok_bind]
    rw [s_rCons, a1]
    simp [e1]
  have t9 : y9 a (sA c0 c2 c3 c4 c5 (some (s.pick pL).1) c7 c8 c9) (src (s.pick pL).2 ++ j) = .nx (sA c0 c2 c3 c4 c5 (some (s.pick pL).1) (some ((s.pick pL).2.pick wL).1) c8 c9) (src ((s.pick pL).2.pick wL).2 ++ j) := by
    have e2' : ct__law_pick a [.loc 1, .lst [.str "comes", .str "fits", .str "looks", .str "sends", .str "again", .str "noted", .str "price", .str "keeps", .str "now", .non, .int 0]] (src (s.pick pL).2 ++ j) = _ := e2
    simp [e2']
  rw [s_rSeq, t8]
  simp only
  rw [s_rSeq, t9]
/-! ### part and word -/
theorem lk_kw (r : Rl) (w : Str) : (lookD K6 (rl6 r) (.inr w)).isSome = decide (w ∈ KW) := by
  by_cases h : w ∈ KW
  · rw [decide_eq_true h, ← vR_map, lkV _ h]
    rfl
  · rw [decide_eq_false h]
    have : ∀ (ks : List Str) (xs : List D), w ∉ ks → lookD (ks.map Sum.inr : List Key) xs (.inr w) = none := by
      intro ks
      induction ks with
      | nil => intro xs _; rfl
      | cons k ks ih =>
        intro xs hk
        cases xs with
        | nil => rfl
        | cons x xs =>
          rw [List.mem_cons, not_or] at hk
          rw [List.map_cons, lookD, if_neg (fun e => hk.1 (Sum.inr.inj e).symm), ih xs hk.2]
    rw [k6_kw, this KW _ h]
    rfl
section
variable (a : Ad) (p : Int) (r : Rl) (q : Str → Bool) (c0 c2 c5 c8 c9 : Option D) (μ : List Ob)
abbrev sB (a : Ad) (p : Int) (r : Rl) (q : Str → Bool) (c0 c2 c5 c8 c9 : Option D) (d w : D) : Sl := sA c0 c2 (some (.lst [.int p, ruleD r, wordsD q])) (some (bookD a p (ruleD r) (wordsD q))) c5 (some d) (some w) c8 c9
theorem y11t_ok {d w : D} (h : VOk d) : y11t a (sB a p r q c0 c2 c5 c8 c9 d w) μ = .ok (!good KW d) μ := by
  have e1 := isi_str (μ := μ) h
  cases hd : d with
  | str x =>
    rw [hd] at e1
    have e2 : inD true (.str x) (ruleD r) μ = .ok (.bl (!decide (x ∈ KW))) μ := by
      rw [← lk_kw r x]
      rfl
    simp [e1, isS, e2, good]
  | _ =>
    rw [hd] at e1
    simp [e1, isS, good]
end
theorem bad_is {v : Str → D} {n g : Str} {w : D} (hn : n ∈ KW) (h : ∀ p ∈ PWs, fit v p = true) (hb : bad1 (updV v n w) PWs = some g) : g = n := by
  have : ∀ ps : List (Str × List Str), (∀ p ∈ ps, p ∈ PWs) → bad1 (updV v n w) ps = some g → g = n := by
    intro ps
    induction ps with
    | nil => intro _ h; cases h
    | cons p ps ih =>
      intro hp hb
      rw [bad1] at hb
      by_cases hf : fit (updV v n w) p = true
      · rw [if_pos hf] at hb
        exact ih (fun q hq => hp q (List.mem_cons_of_mem _ hq)) hb
      · rw [if_neg hf] at hb
        cases hb
        by_cases e : p.1 = n
        · exact e
        · exfalso
          apply hf
          have := h p (hp p List.mem_cons_self)
          unfold fit updV at *
          rw [if_neg e]
          exact this
  exact this PWs (fun p hp => hp) hb
theorem fit_rl {r : Rl} (h : RlOk r) : ∀ p ∈ PWs, fit (vR r) p = true := by
  have e := check_ok ⟨0, 0, 0, 0, 0, 0, 0, 0, 0, 0, 0, 1, 2, by decide, by decide, by decide⟩ [] h
  have e' := check_any ⟨0, 0, 0, 0, 0, 0, 0, 0, 0, 0, 0, 1, 2, by decide, by decide, by decide⟩ [] (.full (vR r) (vR_ok h.str))
  rw [vR_rule, e] at e'
  refine bad_none ?_
  cases hb : bad1 (vR r) PWs with
  | none => rfl
  | some g => rw [hb] at e'; cases e'
theorem rl_inj {r r' : Rl} (h : ruleD r = ruleD r') : r = r' := by
  unfold ruleD at h
  simp only [D.dct.injEq, List.cons.injEq, D.str.injEq, and_true, true_and] at h
  obtain ⟨h1, h2, h3, h4, h5, h6⟩ := h
  cases r
  cases r'
  simp only at h1 h2 h3 h4 h5 h6
  subst h1 h2 h3 h4 h5 h6
  rfl
def wR (r : Rl) : Str → Str := fun p => if p = "counts" then r.c else if p = "evening" then r.e else if p = "lost" then r.l else if p = "remembers" then r.m else if p = "search" then r.s else r.t
theorem vR_wR (r : Rl) (n : Str) : vR r n = .str (wR r n) := by
  unfold vR wR
  split
  · rfl
  split
  · rfl
  split
  · rfl
  split
  · rfl
  split
  · rfl
  · rfl
/-- the rule is another just if the word is -/
theorem upd_same' {r r' : Rl} {n w : Str} (hn : n ∈ KW) (h : ruleV (updV (vR r) n (.str w)) = ruleD r') : rlEq r' r = decide (w = wR r n) := by
  by_cases e : w = wR r n
  · have : updV (vR r) n (.str w) = vR r := funext fun p => by
      unfold updV
      split
      · rename_i hp; rw [hp, vR_wR, e]
      · rfl
    rw [this, vR_rule] at h
    rw [decide_eq_true e, ← rl_inj h, rlEq_self]
  · rw [decide_eq_false e]
    cases hq : rlEq r' r with
    | false => rfl
    | true =>
      exfalso
      apply e
      have hr : r' = r := by
        simp only [rlEq, Bool.and_eq_true, decide_eq_true_eq] at hq
        obtain ⟨h1, h2, h3, h4, h5, h6⟩ := hq
        cases r
        cases r'
        simp only at h1 h2 h3 h4 h5 h6
        subst h1 h2 h3 h4 h5 h6
        rfl
      subst hr
      rw [← vR_rule] at h
      have l1 := lkV (updV (vR r') n (.str w)) hn
      have l2 := lkV (vR r') hn
      unfold ruleV at h
      simp only [D.dct.injEq, true_and] at h
      rw [h, l2] at l1
      have := Option.some.inj l1
      unfold updV at this
      rw [if_pos rfl, vR_wR] at this
      cases this
      rfl
end
end LX

namespace LX
open PySem L2 DL
noncomputable section
section
variable (a : Ad) {p : Int} {r : Rl} (q : Str → Bool) (c0 c2 c5 c8 c9 : Option D) (μ : List Ob)
theorem y10_ok {d w x : D} (h : ct__law_tried a [bookD a p (ruleD r) (wordsD q), .non, d, w] μ = .ok x μ) : y10 a (sB a p r q c0 c2 c5 c8 c9 d w) μ = .nx (sB a p r q c0 c2 c5 (some x) c9 d w) μ := by
  simp [h]
theorem part_no {d w : D} (h : VOk d) (hg : good KW d = false) : rSeq (y10 a) (y11 a) (sB a p r q c0 c2 c5 c8 c9 d w) μ = .nx (sB a p r q c0 c2 c5 (some (Flt.rule "").d) c9 d w) μ := by
  have e0 := changed_no a (bookD a p (ruleD r) (wordsD q)) w μ h hg
  have e1 := tried_exc a (x0 := bookD a p (ruleD r) (wordsD q)) (x1 := .non) (x2 := d) (x3 := w) (.rule "") μ ((tried2 a p (ruleD r) (wordsD q) d w μ).trans e0)
  have t := y10_ok a q c0 c2 c5 c8 c9 μ e1
  have e2 := y11t_ok a p r q c0 c2 c5 (some (Flt.rule "").d) c9 μ (w := w) h
  rw [hg] at e2
  have al := alike_ok a (flt_pl (.rule "") fun p e => by cases e; exact ok_em) μ
  have al' : ct__law_alike a [.tup [.str "rule", .str ""], .tup [.str "rule", .str ""]] μ = .ok (.bl true) μ := al
  rw [s_rSeq, t]
  simp only
  unfold y11
  rw [s_rIfS, e2]
  simp [Flt.d, al']
theorem yWith_ok {n : Str} (hn : n ∈ KW) {w : D} (hw : VOk w) (hr : RlOk r) : yWith a (sB a p r q c0 c2 c5 c8 c9 (.str n) w) μ = .ok (ruleV (updV (vR r) n w)) μ := by
  have e := with_ok a (vR r) (vR_ok hr.str) hn hw μ
  rw [vR_rule] at e
  simp [e]
theorem part_bad {n : Str} (hn : n ∈ KW) {w : D} (hw : VOk w) (hr : RlOk r) (hp : PV (.int p) true) {g : Str} (hg : bad1 (updV (vR r) n w) PWs = some g) : rSeq (y10 a) (y11 a) (sB a p r q c0 c2 c5 c8 c9 (.str n) w) μ = .nx (sB a p r q c0 c2 c5 (some (Flt.rule n).d) c9 (.str n) w) μ := by
  have hgn := bad_is hn (fit_rl hr) hg
  subst hgn
  have e0 := changed_bad a (b := true) hr.str q hn hw hp hg μ
  have e1 := tried_exc a (x0 := bookD a p (ruleD r) (wordsD q)) (x1 := .non) (x2 := .str g) (x3 := w) (.rule g) μ ((tried2 a p (ruleD r) (wordsD q) (.str g) w μ).trans e0)
  have t := y10_ok a q c0 c2 c5 c8 c9 μ e1
  have e2 := y11t_ok a p r q c0 c2 c5 (some (Flt.rule g).d) c9 μ (w := w) (.str g (kw_ok g hn))
  have hgood : good KW (.str g) = true := decide_eq_true hn
  rw [hgood] at e2
  have e3 := yWith_ok a q c0 c2 c5 (some (Flt.rule g).d) c9 μ (p := p) hn hw hr
  have e4 := flt_any a μ (.full _ (updV_ok (vR_ok hr.str) g hw))
  rw [hg] at e4
  have t4 : rT (rBin isNotN (rCall 1 (ct__law_rule_fault a) (rCons (yWith a) rNil)) (rC .non)) (sB a p r q c0 c2 c5 (some (Flt.rule g).d) c9 (.str g) w) μ = .ok true μ := by
    rw [s_rT, s_rBin, s_rCall, s_rCons, e3]
    simp only [R.ok_bind, s_rNil, List.length_cons, List.length_nil, if_true]
    rw [e4]
    rfl
  have o1 : PyData.strOk "rule" = true := by decide +kernel
  have o2 := kw_ok g hn
  have n1 : neD (.tup [.str "rule", .str g]) (.tup [.str "rule", .str g]) μ = .ok (.bl false) μ := by
    unfold neD
    have o : (D.tup [.str "rule", .str g]).okd 60 = true := by simp [D.okd, okdL, o1, o2]
    simp only [vw_tup, o, Bool.and_self, if_true]
    simp [D.eqb, eqbL]
  rw [s_rSeq, t]
  simp only
  unfold y11
  rw [s_rIfS, e2]
  simp only [R.ok_st, Bool.not_true]
  rw [s_rIfS, t4]
  simp only [R.ok_st]
  simp [Flt.d, n1]
theorem part_ok {n : Str} (hn : n ∈ KW) {w : D} (hw : VOk w) (hr : RlOk r) (hp : 2 ≤ p ∧ p ≤ 3) (hg : bad1 (updV (vR r) n w) PWs = none) : ∃ x, rSeq (y10 a) (y11 a) (sB a p r q c0 c2 c5 c8 c9 (.str n) w) μ = .nx (sB a p r q c0 c2 c5 (some x) c9 (.str n) w) μ := by
  obtain ⟨r', hr', he⟩ := rl_of hg
  have hwd : ∃ x, w = .str x ∧ PyData.strOk x = true := by
    have hm : ∃ ps, (n, ps) ∈ PWs := by
      rcases kw_cases hn with rfl | rfl | rfl | rfl | rfl | rfl
      · exact ⟨["comes", "fits"], by simp [PWs]⟩
      · exact ⟨["looks", "sends"], by simp [PWs]⟩
      · exact ⟨["again", "noted"], by simp [PWs]⟩
      · exact ⟨["number", "price", "thing"], by simp [PWs]⟩
      · exact ⟨["forgets", "keeps"], by simp [PWs]⟩
      · exact ⟨["evening", "now"], by simp [PWs]⟩
    obtain ⟨ps, hm⟩ := hm
    have f := bad_none hg (n, ps) hm
    unfold fit updV at f
    rw [if_pos rfl] at f
    obtain ⟨x, rfl, hx⟩ := good_str f
    exact ⟨x, rfl, (pw_ok _ hm).2 x hx⟩
  obtain ⟨x, rfl, hx⟩ := hwd
  refine ⟨bookD a p (ruleD r') (wordsD q), ?_⟩
  have e0 := changed_ok a q hn hp hr' he μ (p := p)
  have e1 := tried_ok a (x0 := bookD a p (ruleD r) (wordsD q)) (x1 := .non) (x2 := .str n) (x3 := .str x) μ ((tried2 a p (ruleD r) (wordsD q) (.str n) (.str x) μ).trans e0) (sc_book a p r' q 0)
  have t := y10_ok a q c0 c2 c5 c8 c9 μ e1
  have e2 := y11t_ok a p r q c0 c2 c5 (some (bookD a p (ruleD r') (wordsD q))) c9 μ (w := .str x) (.str n (kw_ok n hn))
  have hgood : good KW (.str n) = true := decide_eq_true hn
  rw [hgood] at e2
  have e3 := yWith_ok a q c0 c2 c5 (some (bookD a p (ruleD r') (wordsD q))) c9 μ (p := p) hn hw hr
  have e4 := flt_any a μ (.full _ (updV_ok (vR_ok hr.str) n hw))
  rw [hg] at e4
  rw [he] at e3 e4
  rw [s_rSeq, t]
  simp only
  generalize hδ : sB a p r q c0 c2 c5 (some (bookD a p (ruleD r') (wordsD q))) c9 (.str n) (.str x) = δ at e2 e3 ⊢
  have d3 : δ[3]? = some (some (.lst [.int p, ruleD r, wordsD q])) := by rw [← hδ]; rfl
  have d4 : δ[4]? = some (some (bookD a p (ruleD r) (wordsD q))) := by rw [← hδ]; rfl
  have d6 : δ[6]? = some (some (.str n)) := by rw [← hδ]; rfl
  have d7 : δ[7]? = some (some (.str x)) := by rw [← hδ]; rfl
  have d8 : δ[8]? = some (some (bookD a p (ruleD r') (wordsD q))) := by rw [← hδ]; rfl
  have t4 : rT (rBin isNotN (rCall 1 (ct__law_rule_fault a) (rCons (yWith a) rNil)) (rC .non)) δ μ = .ok false μ := by
    rw [s_rT, s_rBin, s_rCall, s_rCons, e3]
    simp only [R.ok_bind, s_rNil, List.length_cons, List.length_nil, if_true]
    rw [e4]
    rfl
  have p1 := prices_ok a p (ruleD r') (wordsD q) μ
  have p2 := rule_p_ok a p r' (wordsD q) μ
  have p3 := words_p_ok a p (ruleD r') q μ
  have w1 : rProp a.kBook (cp_Book_prices a) (rVar 8) δ μ = .ok (.int p) μ := by
    unfold rProp
    rw [s_rVar, d8]
    show (if a.kBook = a.kBook then noX (cp_Book_prices a [bookD a p (ruleD r') (wordsD q)] μ) else .bad) = _
    rw [if_pos rfl, p1]
    rfl
  have w2 : rProp a.kBook (cp_Book_rule a) (rVar 8) δ μ = .ok (ruleD r') μ := by
    unfold rProp
    rw [s_rVar, d8]
    show (if a.kBook = a.kBook then noX (cp_Book_rule a [bookD a p (ruleD r') (wordsD q)] μ) else .bad) = _
    rw [if_pos rfl, p2]
    rfl
  have w3 : rProp a.kBook (cp_Book_words a) (rVar 8) δ μ = .ok (wordsD q) μ := by
    unfold rProp
    rw [s_rVar, d8]
    show (if a.kBook = a.kBook then noX (cp_Book_words a [bookD a p (ruleD r') (wordsD q)] μ) else .bad) = _
    rw [if_pos rfl, p3]
    rfl
  have k1 := ne_rules r' μ
  have k2 : neD (wordsD q) (wordsD q) μ = .ok (.bl false) μ := by
    unfold neD
    rw [show (wordsD q).view μ = wordsD q from rfl, words_okd q 59, words_eqb]
    rfl
  have t5 : y11ct a δ μ = .ok false μ := by
    unfold y11ct
    rw [s_rOrT, s_rT, s_rBin, w2]
    simp only [R.ok_bind]
    rw [e3]
    simp only [R.ok_bind]
    rw [k1]
    simp only [R.ok_bind]
    rw [s_rOrT, s_rT, s_rBin, w1]
    simp only [R.ok_bind]
    rw [show rBin getD (rVar 3) (rC (.int 0)) δ μ = .ok (.int p) μ by simp [d3]]
    simp only [R.ok_bind]
    rw [ne_ints]
    simp only [R.ok_bind, decide_true, Bool.not_true]
    rw [s_rT, s_rBin, w3]
    simp only [R.ok_bind]
    rw [show rBin getD (rVar 3) (rC (.int 2)) δ μ = .ok (wordsD q) μ by simp [d3]]
    simp only [R.ok_bind]
    rw [k2]
    rfl
  have o1 := own_ok a p p hr'.str hr.str q μ
  rw [upd_same' hn he, decide_eq_true rfl, Bool.true_and] at o1
  have hrn : PyData.strOk (wR r n) = true := by
    have := vR_ok hr.str n hn
    rw [vR_wR] at this
    cases this
    assumption
  have q1 := eq_strs (μ := μ) hx hrn
  have gv := getV_rule (vR r) hn (μ := μ)
  rw [vR_rule, vR_wR] at gv
  have vr : (ruleD r).view μ = ruleD r := rfl
  have t6 : y11d a δ μ = .nx δ μ := by
    have l1 : rBin (ownD a.kBook (cq_Book a)) (rVar 8) (rVar 4) δ μ = .ok (.bl (decide (x = wR r n))) μ := by
      simp [d8, d4, o1]
    have l2 : rBin eqD (rVar 7) (rBin getD (rBin getD (rVar 3) (rC (.int 1))) (rVar 6)) δ μ = .ok (.bl (decide (x = wR r n))) μ := by
      simp [d7, d3, d6, vr, gv, q1]
    have l3 : neD (.bl (decide (x = wR r n))) (.bl (decide (x = wR r n))) μ = .ok (.bl false) μ := ne_bl _ μ
    unfold y11d
    rw [s_rIfS, s_rT, s_rBin, l1]
    simp only [R.ok_bind]
    rw [l2]
    simp only [R.ok_bind]
    rw [l3]
    rfl
  unfold y11
  rw [s_rIfS, e2]
  simp only [R.ok_st, Bool.not_true]
  rw [s_rIfS, t4]
  simp only [R.ok_st]
  rw [s_rIfS, t5]
  simp only [R.ok_st]
  exact t6
end
theorem turn_ok (a : Ad) (s : Src) (j : List Ob) (c0 c2 c3 c4 c5 c6 c7 c8 c9 : Option D) : ∃ s' j' d3 d4 d5 d6 d7 d8, yB a (sA c0 c2 c3 c4 c5 c6 c7 c8 c9) (src s ++ j) = .nx (sA c0 c2 d3 d4 d5 d6 d7 d8 c9) (src s' ++ j') := by
  obtain ⟨s1, j1, P, b, U, f, W, bw, hP, hU, hW, e1⟩ := y123 a (rSeq (y4 a) (rIfS (rT (rBin isNotN (rVar 5) (rC .non))) (y5 a) (rSeq (y6 a) (rSeq (y7 a) (rSeq (y8 a) (rSeq (y9 a) (rSeq (y10 a) (y11 a)))))))) s j c0 c2 c3 c4 c5 c6 c7 c8 c9
  cases hf : fltOf b f bw with
  | some t =>
    have e2 := turn_bad a (rSeq (y6 a) (rSeq (y7 a) (rSeq (y8 a) (rSeq (y9 a) (rSeq (y10 a) (y11 a)))))) hP hU hW hf (src s1 ++ j1) c0 c2 c4 c5 c6 c7 c8 c9
    exact ⟨s1, j1, _, _, _, _, _, _, e1.trans e2⟩
  | none =>
    obtain ⟨rfl, hfn, rfl⟩ := flt_none hf
    obtain ⟨p, rfl, hp⟩ := pv_true hP
    obtain ⟨r, hr, rfl⟩ := rf_none hU hfn
    obtain ⟨q, rfl⟩ := wv_true hW
    have e2 := turn_good a (rSeq (y8 a) (rSeq (y9 a) (rSeq (y10 a) (y11 a)))) q hp hr (src s1 ++ j1) c0 c2 c4 c5 c6 c7 c8 c9
    rw [List.append_assoc] at e2
    obtain ⟨s2, d, w, hd, hw, e3⟩ := y89 a (rSeq (y10 a) (y11 a)) s1 (j1 ++ [.dead]) c0 c2 (some (.lst [.int p, ruleD r, wordsD q])) (some (bookD a p (ruleD r) (wordsD q))) (some .non) c6 c7 c8 c9
    have e4 := (e1.trans e2).trans e3
    cases hg : good KW d with
    | false => exact ⟨s2, j1 ++ [.dead], _, _, _, _, _, _, e4.trans (part_no a q c0 c2 (some .non) c8 c9 _ hd hg)⟩
    | true =>
      obtain ⟨n, rfl, hn⟩ := good_str hg
      cases hb : bad1 (updV (vR r) n w) PWs with
      | some g => exact ⟨s2, j1 ++ [.dead], _, _, _, _, _, _, e4.trans (part_bad a q c0 c2 (some .non) c8 c9 _ hn hw hr hP hb)⟩
      | none =>
        obtain ⟨x, e5⟩ := part_ok a q c0 c2 (some .non) c8 c9 (src s2 ++ (j1 ++ [.dead])) hn hw hr hp hb
        exact ⟨s2, j1 ++ [.dead], _, _, _, _, _, _, e4.trans e5⟩
theorem law_loop (a : Ad) (c0 c9 : Option D) : ∀ (ts : List D) (s : Src) (j : List Ob) (c2 c3 c4 c5 c6 c7 c8 : Option D), ∃ δ s' j', forL (.nm 2) (yB a) ts (sA c0 c2 c3 c4 c5 c6 c7 c8 c9) (src s ++ j) = .nx δ (src s' ++ j')
  | [], s, j, _, _, _, _, _, _, _ => ⟨_, s, j, rfl⟩
  | t :: ts, s, j, c2, c3, c4, c5, c6, c7, c8 => by
    obtain ⟨s1, j1, d3, d4, d5, d6, d7, d8, e⟩ := turn_ok a s j c0 (some t) c3 c4 c5 c6 c7 c8 c9
    obtain ⟨δ, s2, j2, e2⟩ := law_loop a c0 c9 ts s1 j1 (some t) d3 d4 d5 d6 d7 d8
    refine ⟨δ, s2, j2, ?_⟩
    rw [forL]
    show (match yB a (sA c0 (some t) c3 c4 c5 c6 c7 c8 c9) (src s ++ j) with
      | .nx δ2 μ2 => forL (.nm 2) (yB a) ts δ2 μ2
      | .ct δ2 μ2 => forL (.nm 2) (yB a) ts δ2 μ2
      | .bk δ2 μ2 => .nx δ2 μ2
      | r => r) = _
    rw [e]
    exact e2
theorem law_true (a : Ad) (ns : List Int) (h : ns.length ≤ 63) : ∃ μ, ct_law a [.frl (ns.map D.int)] [] = .ok (.bl true) μ := by
  obtain ⟨s, e⟩ := mix_ok a ns h 1
  obtain ⟨δ, s', j', e2⟩ := law_loop a (some (.frl (ns.map D.int))) none (DL.upTo 0 6) s [] none none none none none none none
  rw [List.append_nil] at e2
  refine ⟨src s' ++ j', ?_⟩
  have hr : rRange1 (rCons (rC (.int 6)) rNil) (sA (some (.frl (ns.map D.int))) none none none none none none none none) (src s) = .ok (DL.upTo 0 6) (src s) := by
    unfold rRange1
    simp
  unfold ct_law ctOf
  rw [r_lw]
  have e0 : ([D.frl (ns.map D.int)].map some ++ List.replicate 9 none : Sl) = [some (.frl (ns.map D.int)), none, none, none, none, none, none, none, none, none] := rfl
  rw [e0]
  have t1 : rSet 1 (rCall 2 (ct__law_mix a) (rCons (rVar 0) (rCons (rC (.int 1)) rNil))) [some (.frl (ns.map D.int)), none, none, none, none, none, none, none, none, none] [] = .nx (sA (some (.frl (ns.map D.int))) none none none none none none none none) (src s) := by
    simp [e]
  rw [s_rSeq, t1]
  simp only
  rw [s_rSeq, s_rFor, hr]
  simp only [R.ok_st]
  rw [e2]
  rfl
end
end LX

namespace LX
open PySem L2 DL
theorem walk {l : PySem.W.OpenLaw} {q : Program} {loose : List Str} {XP : (Str → Option Value) → Heap → Prop} {YP : World → Heap → Prop} {d : DefRec} {K : Params → PySem.W.Frag} (hn : l.most = some 63) (hdf : d.params.defaults = [])
    (hY : ∀ (w : World) (h : Heap), YP w h → (K w.params).In h)
    (F : ∀ (w : World) (mg : Str → Option Value) (fa : Addr) (h : Heap), (K w.params).In h → h.Ns mainGlobals mg → mg d.name = some (.ref fa) →
      ∃ (a : Ad) (fd : FuncData), (∀ (s : Shared) (u : Value), BindsTo s fd ⟨[u], []⟩ [("_law_script", u)]) ∧ ∀ base : Heap, (K w.params).In base → base.Ns mainGlobals mg → FnOk l.prog w (K w.params) mg base (L2.CX l.prog w) 9 fa fd ["_law_script"] (spD (K w.params) 1 (ct_law a)))
    (m : ∀ (a : Ad) (ns : List Int), ns.length ≤ 63 → ∃ μ, ct_law a [.frl (ns.map D.int)] [] = .ok (.bl true) μ) :
    PySem.W.WalkO q loose XP YP l.row.toRowW d [] (fun f vs => PySem.call f vs) :=
  L2.walk_of (n := 63) (k := 9) (x := "_law_script") (CX := fun w => L2.CX l.prog w) (sp := fun w => spLaw (K w.params)) hn (by decide) hdf ⟨rfl, by decide, by decide⟩ hY
    (fun w mg fa h X G e => let ⟨a, fd, h1, h2⟩ := F w mg fa h X G e; ⟨fd, h1, fun base b1 b2 => DL.spd_of (h2 base b1 b2) (m a)⟩)
    (fun _ _ a ns hl _ hS => ⟨a, ns, rfl, hS, hl, fun _ => rfl⟩) fun _ _ _ _ _ z => by
      obtain ⟨_, _, _, _, _, _, _, _, _, _, _, _, z⟩ := z
      exact z.elim
end LX
open PySem PySem.W PyProof.Rows
set_option maxRecDepth 100000 in
set_option maxHeartbeats 0 in
theorem PySem.Challenge.cw_findstold_k01_books_refused_holds : PySem.Challenge.rw_findstold_k01_books_refused.Holds := by
  w_on; o_law; k_head; (case hw => w_witness2)
  k_fill
  refine LX.walk (l := PySem.Challenge.rw_findstold_k01_books_refused) rfl rfl (fun w h Y => PySem.W.kIn_of Y) ?F LX.law_true
  case F =>
    intro w mg fa h KX G hmg
    refine' LX.all_mk KX G ?gkInvalidWords ?gkInvalidRule ?gkInvalidPrices ?gkFindError hmg ?gkBook ?a0 ?l0 ?c0 ?k0 ?a1 ?l1 ?c1 ?k1 ?a2 ?l2 ?c2 ?k2 ?a3 ?i3 ?l3 ?c3 ?k3 ?a4 ?pG4 ?pT4 ?pR4 ?l4 ?c4 ?k4 ?a5 ?pG5 ?pT5 ?pR5 ?l5 ?c5 ?k5 ?a6 ?pG6 ?pT6 ?pR6 ?l6 ?c6 ?k6 ?a7 ?i7 ?l7 ?c7 ?k7 ?a8 ?i8 ?l8 ?c8 ?k8 ?a9 ?l9 ?c9 ?k9 ?a10 ?l10 ?c10 ?k10 ?a11 ?l11 ?c11 ?k11 ?a12 ?l12 ?c12 ?k12 ?a13 ?l13 ?c13 ?k13 ?a14 ?l14 ?c14 ?k14 ?a15 ?l15 ?c15 ?k15 ?a16 ?l16 ?c16 ?k16 ?a17 ?l17 ?c17 ?k17 ?a18 ?l18 ?c18 ?k18 ?a19 ?l19 ?c19 ?k19 ?a20 ?l20 ?c20 ?k20 ?a21 ?l21 ?c21 ?k21 ?a22 ?l22 ?c22 ?k22 ?a23 ?l23 ?c23 ?k23 ?hTop ?tpX ?msX ?lcInvalidPrices ?saInvalidPrices ?ecInvalidPrices ?tyInvalidPrices ?kcInvalidPrices ?iiInvalidPrices ?itInvalidPrices ?lfInvalidPrices ?llInvalidPrices ?hcInvalidPrices ?lkInvalidPrices ?hvInvalidPrices ?hfInvalidPrices ?suInvalidPrices ?smInvalidPrices ?sVInvalidPrices ?lcInvalidRule ?saInvalidRule ?ecInvalidRule ?tyInvalidRule ?kcInvalidRule ?iiInvalidRule ?itInvalidRule ?lfInvalidRule ?llInvalidRule ?hcInvalidRule ?lkInvalidRule ?hvInvalidRule ?hfInvalidRule ?suInvalidRule ?smInvalidRule ?sVInvalidRule ?nfInvalidRule_part ?lcInvalidWords ?saInvalidWords ?ecInvalidWords ?tyInvalidWords ?kcInvalidWords ?iiInvalidWords ?itInvalidWords ?lfInvalidWords ?llInvalidWords ?hcInvalidWords ?lkInvalidWords ?hvInvalidWords ?hfInvalidWords ?suInvalidWords ?smInvalidWords ?sVInvalidWords ?beInvalidPrices ?bdInvalidPrices ?btInvalidPrices ?esInvalidPrices_InvalidPrices ?beInvalidRule ?bdInvalidRule ?btInvalidRule ?esInvalidPrices_InvalidRule ?beInvalidWords ?bdInvalidWords ?btInvalidWords ?esInvalidPrices_InvalidWords ?esInvalidRule_InvalidPrices ?esInvalidRule_InvalidRule ?esInvalidRule_InvalidWords ?esInvalidWords_InvalidPrices ?esInvalidWords_InvalidRule ?esInvalidWords_InvalidWords ?xgInvalidPrices ?xhInvalidPrices ?beFindError ?bdFindError ?btFindError ?kaInvalidPrices ?kmInvalidPrices ?knX ?ktX ?kqInvalidPrices_FindError ?kkFindError ?xgInvalidRule ?xhInvalidRule ?nxInvalidRule_part ?pgBook ?hdBook ?poBook ?saBook ?mkBook ?kcBook ?g_PARTS ?ldPARTS ?kkPARTS ?loPARTS ?enPARTS ?ltPARTS_0 ?szPARTS_0 ?vlPARTS_0 ?ltPARTS_1 ?szPARTS_1 ?vlPARTS_1 ?ltPARTS_2 ?szPARTS_2 ?vlPARTS_2 ?ltPARTS_3 ?szPARTS_3 ?vlPARTS_3 ?ltPARTS_4 ?szPARTS_4 ?vlPARTS_4 ?ltPARTS_5 ?szPARTS_5 ?vlPARTS_5 ?ltWORDS ?szWORDS ?vlWORDS ?g_WORDS ?n_all ?n_bool ?n_dict ?n_int ?n_isinstance ?n_len ?n_list ?n_max ?n_range ?n_repr ?n_sorted ?n_str ?n_tuple ?at_Book_highest ?at_Book_kinds ?at_Book_terms ?haBook ?hnBook ?htBook ?hmBook ?kkBook ?btBook
    (case gkBook => k_is)
    (case gkFindError => k_is)
    (case gkInvalidPrices => k_is)
    (case gkInvalidRule => k_is)
    (case gkInvalidWords => k_is)
    (case g_WORDS => k_is)
    (case a0 => k_is)
    (case l0 => k_is)
    (case c0 => k_is)
    (case k0 => k_is)
    (case a1 => k_is)
    (case l1 => k_is)
    (case c1 => k_is)
    (case k1 => k_is)
    (case a2 => k_is)
    (case l2 => k_is)
    (case c2 => k_is)
    (case k2 => k_is)
    (case a3 => k_is)
    (case i3 => k_is)
    (case l3 => k_is)
    (case c3 => k_is)
    (case k3 => k_is)
    (case a4 => k_is)
    (case pG4 => k_is)
    (case pT4 => k_is)
    (case pR4 => k_is)
    (case l4 => k_is)
    (case c4 => k_is)
    (case k4 => k_is)
    (case a5 => k_is)
    (case pG5 => k_is)
    (case pT5 => k_is)
    (case pR5 => k_is)
    (case l5 => k_is)
    (case c5 => k_is)
    (case k5 => k_is)
    (case a6 => k_is)
    (case pG6 => k_is)
    (case pT6 => k_is)
    (case pR6 => k_is)
    (case l6 => k_is)
    (case c6 => k_is)
    (case k6 => k_is)
    (case a7 => k_is)
    (case i7 => k_is)
    (case l7 => k_is)
    (case c7 => k_is)
    (case k7 => k_is)
    (case a8 => k_is)
    (case i8 => k_is)
    (case l8 => k_is)
    (case c8 => k_is)
    (case k8 => k_is)
    (case a9 => k_is)
    (case l9 => k_is)
    (case c9 => k_is)
    (case k9 => k_is)
    (case a10 => k_is)
    (case l10 => k_is)
    (case c10 => k_is)
    (case k10 => k_is)
    (case a11 => k_is)
    (case l11 => k_is)
    (case c11 => k_is)
    (case k11 => k_is)
    (case a12 => k_is)
    (case l12 => k_is)
    (case c12 => k_is)
    (case k12 => k_is)
    (case a13 => k_is)
    (case l13 => k_is)
    (case c13 => k_is)
    (case k13 => k_is)
    (case a14 => k_is)
    (case l14 => k_is)
    (case c14 => k_is)
    (case k14 => k_is)
    (case a15 => k_is)
    (case l15 => k_is)
    (case c15 => k_is)
    (case k15 => k_is)
    (case a16 => k_is)
    (case l16 => k_is)
    (case c16 => k_is)
    (case k16 => k_is)
    (case a17 => k_is)
    (case l17 => k_is)
    (case c17 => k_is)
    (case k17 => k_is)
    (case a18 => k_is)
    (case l18 => k_is)
    (case c18 => k_is)
    (case k18 => k_is)
    (case a19 => k_is)
    (case l19 => k_is)
    (case c19 => k_is)
    (case k19 => k_is)
    (case a20 => k_is)
    (case l20 => k_is)
    (case c20 => k_is)
    (case k20 => k_is)
    (case a21 => k_is)
    (case l21 => k_is)
    (case c21 => k_is)
    (case k21 => k_is)
    (case a22 => k_is)
    (case l22 => k_is)
    (case c22 => k_is)
    (case k22 => k_is)
    (case a23 => k_is)
    (case l23 => k_is)
    (case c23 => k_is)
    (case k23 => k_is)
    (case hTop => first | rfl | decide +kernel)
    (case tpX => k_is)
    (case msX => k_is)
    (case lcInvalidPrices => k_is)
    (case saInvalidPrices => k_is)
    (case ecInvalidPrices => k_is)
    (case tyInvalidPrices => k_is)
    (case kcInvalidPrices => k_is)
    (case iiInvalidPrices => k_is)
    (case itInvalidPrices => k_is)
    (case lfInvalidPrices => k_is)
    (case llInvalidPrices => k_is)
    (case hcInvalidPrices => k_is)
    (case lkInvalidPrices => k_is)
    (case hvInvalidPrices => rfl)
    (case hfInvalidPrices => first | rfl | decide +kernel)
    (case suInvalidPrices => ks_is)
    (case smInvalidPrices => k_is)
    (case sVInvalidPrices => k_is)
    (case lcInvalidRule => k_is)
    (case saInvalidRule => k_is)
    (case ecInvalidRule => k_is)
    (case tyInvalidRule => k_is)
    (case kcInvalidRule => k_is)
    (case iiInvalidRule => k_is)
    (case itInvalidRule => k_is)
    (case lfInvalidRule => k_is)
    (case llInvalidRule => k_is)
    (case hcInvalidRule => k_is)
    (case lkInvalidRule => k_is)
    (case hvInvalidRule => rfl)
    (case hfInvalidRule => first | rfl | decide +kernel)
    (case suInvalidRule => ks_is)
    (case smInvalidRule => k_is)
    (case sVInvalidRule => k_is)
    (case nfInvalidRule_part => k_is)
    (case lcInvalidWords => k_is)
    (case saInvalidWords => k_is)
    (case ecInvalidWords => k_is)
    (case tyInvalidWords => k_is)
    (case kcInvalidWords => k_is)
    (case iiInvalidWords => k_is)
    (case itInvalidWords => k_is)
    (case lfInvalidWords => k_is)
    (case llInvalidWords => k_is)
    (case hcInvalidWords => k_is)
    (case lkInvalidWords => k_is)
    (case hvInvalidWords => rfl)
    (case hfInvalidWords => first | rfl | decide +kernel)
    (case suInvalidWords => ks_is)
    (case smInvalidWords => k_is)
    (case sVInvalidWords => k_is)
    (case beInvalidPrices => k_is)
    (case bdInvalidPrices => k_is)
    (case btInvalidPrices => k_is)
    (case esInvalidPrices_InvalidPrices => k_is)
    (case beInvalidRule => k_is)
    (case bdInvalidRule => k_is)
    (case btInvalidRule => k_is)
    (case esInvalidPrices_InvalidRule => k_is)
    (case beInvalidWords => k_is)
    (case bdInvalidWords => k_is)
    (case btInvalidWords => k_is)
    (case esInvalidPrices_InvalidWords => k_is)
    (case esInvalidRule_InvalidPrices => k_is)
    (case esInvalidRule_InvalidRule => k_is)
    (case esInvalidRule_InvalidWords => k_is)
    (case esInvalidWords_InvalidPrices => k_is)
    (case esInvalidWords_InvalidRule => k_is)
    (case esInvalidWords_InvalidWords => k_is)
    (case xgInvalidPrices => k_is)
    (case xhInvalidPrices => k_is)
    (case beFindError => k_is)
    (case bdFindError => k_is)
    (case btFindError => k_is)
    (case kaInvalidPrices => k_is)
    (case kmInvalidPrices => k_is)
    (case knX => k_is)
    (case ktX => k_is)
    (case kqInvalidPrices_FindError => k_is)
    (case kkFindError => exact rfl)
    (case xgInvalidRule => k_is)
    (case xhInvalidRule => k_is)
    (case nxInvalidRule_part => k_is)
    (case pgBook => k_is)
    (case hdBook => k_is)
    (case poBook => k_is)
    (case saBook => k_is)
    (case mkBook => k_is)
    (case kcBook => k_is)
    (case g_PARTS => k_is)
    (case ldPARTS => k_is)
    (case kkPARTS => k_keys)
    (case loPARTS => decide)
    (case enPARTS => exact .cons ⟨⟨_, _, rfl, rfl⟩, rfl⟩ (.cons ⟨⟨_, _, rfl, rfl⟩, rfl⟩ (.cons ⟨⟨_, _, rfl, rfl⟩, rfl⟩ (.cons ⟨⟨_, _, rfl, rfl⟩, rfl⟩ (.cons ⟨⟨_, _, rfl, rfl⟩, rfl⟩ (.cons ⟨⟨_, _, rfl, rfl⟩, rfl⟩ (.nil)))))))
    (case ltPARTS_0 => k_is)
    (case szPARTS_0 => decide)
    (case vlPARTS_0 => exact .cons ⟨_, rfl⟩ (.cons ⟨_, rfl⟩ (.nil)))
    (case ltPARTS_1 => k_is)
    (case szPARTS_1 => decide)
    (case vlPARTS_1 => exact .cons ⟨_, rfl⟩ (.cons ⟨_, rfl⟩ (.nil)))
    (case ltPARTS_2 => k_is)
    (case szPARTS_2 => decide)
    (case vlPARTS_2 => exact .cons ⟨_, rfl⟩ (.cons ⟨_, rfl⟩ (.nil)))
    (case ltPARTS_3 => k_is)
    (case szPARTS_3 => decide)
    (case vlPARTS_3 => exact .cons ⟨_, rfl⟩ (.cons ⟨_, rfl⟩ (.cons ⟨_, rfl⟩ (.nil))))
    (case ltPARTS_4 => k_is)
    (case szPARTS_4 => decide)
    (case vlPARTS_4 => exact .cons ⟨_, rfl⟩ (.cons ⟨_, rfl⟩ (.nil)))
    (case ltPARTS_5 => k_is)
    (case szPARTS_5 => decide)
    (case vlPARTS_5 => exact .cons ⟨_, rfl⟩ (.cons ⟨_, rfl⟩ (.nil)))
    (case ltWORDS => k_is)
    (case szWORDS => decide)
    (case vlWORDS => exact .cons ⟨_, rfl⟩ (.cons ⟨_, rfl⟩ (.cons ⟨_, rfl⟩ (.cons ⟨_, rfl⟩ (.cons ⟨_, rfl⟩ (.cons ⟨_, rfl⟩ (.nil)))))))
    (case n_all => k_is)
    (case n_bool => k_is)
    (case n_dict => k_is)
    (case n_int => k_is)
    (case n_isinstance => k_is)
    (case n_len => k_is)
    (case n_list => k_is)
    (case n_max => k_is)
    (case n_range => k_is)
    (case n_repr => k_is)
    (case n_sorted => k_is)
    (case n_str => k_is)
    (case n_tuple => k_is)
    (case at_Book_highest => k_is)
    (case at_Book_kinds => k_is)
    (case at_Book_terms => k_is)
    (case haBook => k_is)
    (case hnBook => k_is)
    (case htBook => k_is)
    (case hmBook => k_is)
    (case kkBook => exact rfl)
    (case btBook => k_is)

