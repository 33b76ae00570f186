import PyProof.Rows.All
import Wide.All
import OpenK.AllK
import Wide.FinOn
import HandS.ForMost
import HandS.ForExc
import HandS.More
import HandS.TupAny
import HandS.Text
import HandS.Deep
import HandS.IsInst
import HandS.Iter
import HandS.Comp
import HandS.DictComp
import HandS.Zip
import HandS.RaiseMore
import HandS.Star
import HandS.Small
import HandS.OwnEq
import HandS.Style
import HandS.ForDict
import HandS.DeepEq
import PySem.Challenge.RW_findstold_k14_whole_texts
set_option Elab.async false
set_option linter.all false
set_option maxRecDepth 100000
set_option maxHeartbeats 1000000
/-! The data layer: values as data, mutable objects in a store by places; readings are functions. -/
namespace DL
open PySem L2

/-- a value as data: tup, lst, dct, ins stand still; loc k is the k-th object of the store -/
inductive D where
  | non | bl (b : Bool) | int (i : Int) | str (s : Str)
  | tup (xs : List D) | lst (xs : List D) | frl (xs : List D)
  | dct (ks : List Key) (xs : List D)
  | ins (C : Addr) (fs : List Str) (xs : List D)
  | loc (k : Nat)
  | vv (x : V)
/-- an object of the store -/
inductive Ob where
  | lst (xs : List D) | dct (ks : List Key) (xs : List D) | ins (C : Addr) (fs : List Str) (xs : List D) | dead

/-- a dict that is read; one that stands still -/
def RdD (H : Hp) (a : Addr) (kvs : List (Key × V)) : Prop := Rd H a (.dK kvs)
def FzD (H : Hp) (a : Addr) (kvs : List (Key × V)) : Prop := ∃ o, H a = some (.frz o (.dK kvs))
theorem FzD.rd {H : Hp} {a : Addr} {kvs : List (Key × V)} (h : FzD H a kvs) : RdD H a kvs := let ⟨o, h⟩ := h; .inr ⟨o, h⟩

mutual
inductive Is (K : PySem.W.Frag) (α : List Addr) (F : Hp) : V → D → Prop
  | non : Is K α F .non .non
  | bl (b : Bool) : Is K α F (.bl b) (.bl b)
  | int (i : Int) : Is K α F (.int i) (.int i)
  | str (s : Str) : Is K α F (.str s) (.str s)
  | tup {a : Addr} {vs : List V} {ds : List D} : SqT K F a vs → IsL K α F vs ds → Is K α F (.ref a) (.tup ds)
  | lst {a : Addr} {vs : List V} {ds : List D} : F a = some (.lst vs) → IsL K α F vs ds → Is K α F (.ref a) (.lst ds)
  | frl {a : Addr} {vs : List V} {ds : List D} : SqL K F a vs → IsL K α F vs ds → Is K α F (.ref a) (.frl ds)
  | dct {a : Addr} {kvs : List (Key × V)} {ks : List Key} {ds : List D} : FzD F a kvs → kvs.map (·.1) = ks → IsL K α F (kvs.map (·.2)) ds → Is K α F (.ref a) (.dct ks ds)
  | ins {a C dx : Addr} {fv : List (Str × V)} {fs : List Str} {ds : List D} : F a = some (.ins C dx fv) → fv.map (·.1) = fs → IsL K α F (fv.map (·.2)) ds → Is K α F (.ref a) (.ins C fs ds)
  | loc {a : Addr} {k : Nat} : α[k]? = some a → Is K α F (.ref a) (.loc k)
  | vv (x : V) : Is K α F x (.vv x)
inductive IsL (K : PySem.W.Frag) (α : List Addr) (F : Hp) : List V → List D → Prop
  | nil : IsL K α F [] []
  | cons {v : V} {vs : List V} {d : D} {ds : List D} : Is K α F v d → IsL K α F vs ds → IsL K α F (v :: vs) (d :: ds)
end

section
variable {K : PySem.W.Frag} {γ : Hp} {α α' : List Addr} {F F' H H' : Hp}
theorem rd_mono {a : Addr} {u : HO} (e : Same F F') (h : Rd F a u) : Rd F' a u := by
  rcases h with h | ⟨o, h⟩
  · exact .inl (e _ _ h)
  · exact .inr ⟨o, e _ _ h⟩
theorem sqt_mono {a : Addr} {xs : List V} (e : Same F F') (h : SqT K F a xs) : SqT K F' a xs := by
  rcases h with h | h
  · exact .inl (rd_mono e h)
  · exact .inr h
theorem rdd_mono {a : Addr} {kvs : List (Key × V)} (e : Same F F') (h : RdD F a kvs) : RdD F' a kvs := rd_mono e h
theorem fzd_mono {a : Addr} {kvs : List (Key × V)} (e : Same F F') (h : FzD F a kvs) : FzD F' a kvs := let ⟨o, h⟩ := h; ⟨o, e _ _ h⟩
theorem pre_get {k : Nat} {a : Addr} (p : α <+: α') (h : α[k]? = some a) : α'[k]? = some a := by
  obtain ⟨t, rfl⟩ := p
  rw [List.getElem?_append_left (List.getElem?_eq_some_iff.mp h).1]
  exact h
mutual
theorem Is.mono (p : α <+: α') (e : Same F F') : ∀ {v : V} {d : D}, Is K α F v d → Is K α' F' v d
  | _, _, .non => .non
  | _, _, .bl b => .bl b
  | _, _, .int i => .int i
  | _, _, .str s => .str s
  | _, _, .tup h l => .tup (sqt_mono e h) (IsL.mono p e l)
  | _, _, .lst h l => .lst (e _ _ h) (IsL.mono p e l)
  | _, _, .frl h l => .frl (e.seq h) (IsL.mono p e l)
  | _, _, .dct h q l => .dct (fzd_mono e h) q (IsL.mono p e l)
  | _, _, .ins h q l => .ins (e _ _ h) q (IsL.mono p e l)
  | _, _, .loc h => .loc (pre_get p h)
  | _, _, .vv x => .vv x
theorem IsL.mono (p : α <+: α') (e : Same F F') : ∀ {vs : List V} {ds : List D}, IsL K α F vs ds → IsL K α' F' vs ds
  | _, _, .nil => .nil
  | _, _, .cons h l => .cons (Is.mono p e h) (IsL.mono p e l)
end
theorem IsL.length : ∀ {vs : List V} {ds : List D}, IsL K α F vs ds → vs.length = ds.length
  | _, _, .nil => rfl
  | _, _, .cons _ l => by rw [List.length_cons, List.length_cons, IsL.length l]
theorem IsL.get : ∀ {vs : List V} {ds : List D} {i : Nat} {d : D}, IsL K α F vs ds → ds[i]? = some d → ∃ v, vs[i]? = some v ∧ Is K α F v d
  | _, _, _, _, .nil, e => by simp at e
  | _, _, 0, _, .cons h _, e => by simp at e; subst e; exact ⟨_, rfl, h⟩
  | _, _, i + 1, d, .cons _ l, e => by
    obtain ⟨v, h1, h2⟩ := IsL.get (i := i) (d := d) l (by simpa using e)
    exact ⟨v, by simpa using h1, h2⟩
theorem IsL.getV : ∀ {vs : List V} {ds : List D} {i : Nat} {v : V}, IsL K α F vs ds → vs[i]? = some v → ∃ d, ds[i]? = some d ∧ Is K α F v d
  | _, _, _, _, .nil, e => by simp at e
  | _, _, 0, _, .cons h _, e => by simp at e; subst e; exact ⟨_, rfl, h⟩
  | _, _, i + 1, v, .cons _ l, e => by
    obtain ⟨d, h1, h2⟩ := IsL.getV (i := i) (v := v) l (by simpa using e)
    exact ⟨d, by simpa using h1, h2⟩
theorem IsL.append : ∀ {vs ws : List V} {ds es : List D}, IsL K α F vs ds → IsL K α F ws es → IsL K α F (vs ++ ws) (ds ++ es)
  | _, _, _, _, .nil, m => m
  | _, _, _, _, .cons h l, m => .cons h (IsL.append l m)
theorem IsL.take : ∀ {vs : List V} {ds : List D} (n : Nat), IsL K α F vs ds → IsL K α F (vs.take n) (ds.take n)
  | _, _, 0, _ => .nil
  | _, _, _ + 1, .nil => .nil
  | _, _, n + 1, .cons h l => .cons h (IsL.take n l)
theorem IsL.drop : ∀ {vs : List V} {ds : List D} (n : Nat), IsL K α F vs ds → IsL K α F (vs.drop n) (ds.drop n)
  | _, _, 0, m => m
  | _, _, _ + 1, .nil => .nil
  | _, _, n + 1, .cons _ l => IsL.drop n l
theorem IsL.set {v : V} {d : D} (h : Is K α F v d) : ∀ {vs : List V} {ds : List D} (n : Nat), IsL K α F vs ds → IsL K α F (vs.set n v) (ds.set n d)
  | _, _, _, .nil => .nil
  | _, _, 0, .cons _ l => .cons h l
  | _, _, n + 1, .cons q l => .cons q (IsL.set h n l)
theorem IsL.ints : ∀ (ns : List Int), IsL K α F (ns.map V.int) (ns.map D.int)
  | [] => .nil
  | n :: r => .cons (.int n) (IsL.ints r)

/-! ### places that occur -/
mutual
def D.sc (n : Nat) : D → Bool
  | .tup xs => scL n xs
  | .lst xs => scL n xs
  | .frl xs => scL n xs
  | .dct _ xs => scL n xs
  | .ins _ _ xs => scL n xs
  | .loc k => decide (k < n)
  | _ => true
def scL (n : Nat) : List D → Bool
  | [] => true
  | x :: xs => x.sc n && scL n xs
end
def Ob.sc (n : Nat) : Ob → Bool
  | .lst xs => scL n xs
  | .dct _ xs => scL n xs
  | .ins _ _ xs => scL n xs
  | .dead => true
mutual
theorem Is.scoped : ∀ {v : V} {d : D}, Is K α F v d → d.sc α.length = true
  | _, _, .non => by simp [D.sc]
  | _, _, .bl b => by simp [D.sc]
  | _, _, .int i => by simp [D.sc]
  | _, _, .str s => by simp [D.sc]
  | _, _, .tup h l => by rw [D.sc]; exact IsL.scoped l
  | _, _, .lst h l => by rw [D.sc]; exact IsL.scoped l
  | _, _, .frl h l => by rw [D.sc]; exact IsL.scoped l
  | _, _, .dct h q l => by rw [D.sc]; exact IsL.scoped l
  | _, _, .ins h q l => by rw [D.sc]; exact IsL.scoped l
  | _, _, .loc h => by rw [D.sc]; exact decide_eq_true (List.getElem?_eq_some_iff.mp h).1
  | _, _, .vv x => by simp [D.sc]
theorem IsL.scoped : ∀ {vs : List V} {ds : List D}, IsL K α F vs ds → scL α.length ds = true
  | _, _, .nil => by simp [scL]
  | _, _, .cons h l => by rw [scL, Is.scoped h, IsL.scoped l]; rfl
end
mutual
theorem Is.cut {n : Nat} : ∀ {v : V} {d : D}, Is K α F v d → d.sc n = true → Is K (α.take n) F v d
  | _, _, .non, _ => .non
  | _, _, .bl b, _ => .bl b
  | _, _, .int i, _ => .int i
  | _, _, .str s, _ => .str s
  | _, _, .tup h l, e => .tup h (IsL.cut l (by rw [D.sc] at e; exact e))
  | _, _, .lst h l, e => .lst h (IsL.cut l (by rw [D.sc] at e; exact e))
  | _, _, .frl h l, e => .frl h (IsL.cut l (by rw [D.sc] at e; exact e))
  | _, _, .dct h q l, e => .dct h q (IsL.cut l (by rw [D.sc] at e; exact e))
  | _, _, .ins h q l, e => .ins h q (IsL.cut l (by rw [D.sc] at e; exact e))
  | _, _, .loc h, e => .loc (by rw [D.sc] at e; rw [List.getElem?_take_of_lt (of_decide_eq_true e)]; exact h)
  | _, _, .vv x, _ => .vv x
theorem IsL.cut {n : Nat} : ∀ {vs : List V} {ds : List D}, IsL K α F vs ds → scL n ds = true → IsL K (α.take n) F vs ds
  | _, _, .nil, _ => .nil
  | _, _, .cons h l, e => by
    rw [scL, Bool.and_eq_true] at e
    exact .cons (Is.cut h e.1) (IsL.cut l e.2)
end

/-! ### the store -/
def ObIs (K : PySem.W.Frag) (α : List Addr) (F H : Hp) (a : Addr) : Ob → Prop
  | .lst ds => ∃ vs, H a = some (.lst vs) ∧ IsL K α F vs ds
  | .dct ks ds => ∃ kvs, H a = some (.dK kvs) ∧ kvs.map (·.1) = ks ∧ IsL K α F (kvs.map (·.2)) ds
  | .ins C fs ds => ∃ dx fv, H a = some (.ins C dx fv) ∧ fv.map (·.1) = fs ∧ IsL K α F (fv.map (·.2)) ds
  | .dead => True
theorem ObIs.mono {a : Addr} {o : Ob} (p : α <+: α') (e : Same F F') (q : H' a = H a) (h : ObIs K α F H a o) : ObIs K α' F' H' a o := by
  cases o with
  | lst ds => obtain ⟨vs, h1, h2⟩ := h; exact ⟨vs, q.trans h1, h2.mono p e⟩
  | dct ks ds => obtain ⟨kvs, h1, h2, h3⟩ := h; exact ⟨kvs, q.trans h1, h2, h3.mono p e⟩
  | ins C fs ds => obtain ⟨dx, fv, h1, h2, h3⟩ := h; exact ⟨dx, fv, q.trans h1, h2, h3.mono p e⟩
  | dead => trivial
theorem ObIs.scoped {a : Addr} {o : Ob} (h : ObIs K α F H a o) : o.sc α.length = true := by
  cases o with
  | lst ds => obtain ⟨vs, h1, h2⟩ := h; exact h2.scoped
  | dct ks ds => obtain ⟨kvs, h1, h2, h3⟩ := h; exact h3.scoped
  | ins C fs ds => obtain ⟨dx, fv, h1, h2, h3⟩ := h; exact h3.scoped
  | dead => rfl
theorem ObIs.cut {a : Addr} {o : Ob} {n : Nat} (h : ObIs K α F H a o) (e : o.sc n = true) : ObIs K (α.take n) F H a o := by
  cases o with
  | lst ds => obtain ⟨vs, h1, h2⟩ := h; exact ⟨vs, h1, h2.cut e⟩
  | dct ks ds => obtain ⟨kvs, h1, h2, h3⟩ := h; exact ⟨kvs, h1, h2, h3.cut e⟩
  | ins C fs ds => obtain ⟨dx, fv, h1, h2, h3⟩ := h; exact ⟨dx, fv, h1, h2, h3.cut e⟩
  | dead => trivial

structure Wd (K : PySem.W.Frag) (γ : Hp) (α : List Addr) (F H : Hp) (μ : List Ob) : Prop where
  len : α.length = μ.length
  inj : ∀ (i j : Nat) a, α[i]? = some a → α[j]? = some a → i = j
  sub : Same F H
  there : ∀ (k : Nat) a, α[k]? = some a → H a ≠ none
  apart : ∀ (k : Nat) a o, α[k]? = some a → μ[k]? = some o → o ≠ .dead → F a = none
  obj : ∀ (k : Nat) a o, α[k]? = some a → μ[k]? = some o → ObIs K α F H a o
  gs : Same γ H
  gf : ∀ a, γ a ≠ none → F a = none
  ga : ∀ (k : Nat) a, α[k]? = some a → γ a = none

variable {μ : List Ob}
theorem ObIs.ne {a p : Addr} {o : Ob} (h : ObIs K α F H a o) (hd : o ≠ .dead) (hp : H p = none) : a ≠ p := by
  rintro rfl
  cases o with
  | lst ds => obtain ⟨vs, h1, h2⟩ := h; rw [hp] at h1; cases h1
  | dct ks ds => obtain ⟨kvs, h1, h2, h3⟩ := h; rw [hp] at h1; cases h1
  | ins C fs ds => obtain ⟨dx, fv, h1, h2, h3⟩ := h; rw [hp] at h1; cases h1
  | dead => exact hd rfl
theorem same_upd {p : Addr} {o : HO} (e : Same F H) (h : F p = none) : Same F (upd H p o) := fun b u hb => by
  rw [upd_ne (ne_of_none hb h)]
  exact e b u hb
theorem same_new {p : Addr} {o : HO} (h : F p = none) : Same F (upd F p o) := same_upd (Same.refl F) h
theorem same_both {p : Addr} {o : HO} (e : Same F H) : Same (upd F p o) (upd H p o) := fun b u hb => by
  by_cases hq : b = p
  · subst hq
    rw [upd_same] at hb ⊢
    exact hb
  · rw [upd_ne hq] at hb ⊢
    exact e b u hb
/-- something that stands still is laid -/
theorem Wd.lay {p : Addr} {o : HO} (w : Wd K γ α F H μ) (hp : H p = none) : Wd K γ α (upd F p o) (upd H p o) μ where
  len := w.len
  inj := w.inj
  sub := same_both w.sub
  there := fun k a h => by
    have := w.there k a h
    have ne : a ≠ p := fun e => this (by rw [e]; exact hp)
    rw [upd_ne ne]
    exact this
  apart := fun k a ob h1 h2 h3 => by
    rw [upd_ne ((w.obj k a ob h1 h2).ne h3 hp)]
    exact w.apart k a ob h1 h2 h3
  obj := fun k a ob h1 h2 => by
    have fp : F p = none := w.sub.free hp
    have ne : a ≠ p := fun e => w.there k a h1 (by rw [e]; exact hp)
    exact (w.obj k a ob h1 h2).mono (List.prefix_refl _) (same_new fp) (upd_ne ne)
  gs := same_upd w.gs (w.gs.free hp)
  gf := fun a h => by
    have ne : a ≠ p := fun e => h (by rw [e]; exact w.gs.free hp)
    rw [upd_ne ne]
    exact w.gf a h
  ga := w.ga
/-- .. that is not told -/
theorem Wd.lay0 {p : Addr} {o : HO} (w : Wd K γ α F H μ) (hp : H p = none) : Wd K γ α F (upd H p o) μ where
  len := w.len
  inj := w.inj
  sub := same_upd w.sub (w.sub.free hp)
  there := fun k a h => by
    have := w.there k a h
    have ne : a ≠ p := fun e => this (by rw [e]; exact hp)
    rw [upd_ne ne]
    exact this
  apart := w.apart
  obj := fun k a ob h1 h2 => by
    have ne : a ≠ p := fun e => w.there k a h1 (by rw [e]; exact hp)
    exact (w.obj k a ob h1 h2).mono (List.prefix_refl _) (Same.refl F) (upd_ne ne)
  gs := same_upd w.gs (w.gs.free hp)
  gf := w.gf
  ga := w.ga
/-- a new object of the store -/
theorem Wd.new {p : Addr} {o : HO} {ob : Ob} (w : Wd K γ α F H μ) (hp : H p = none) (h : ObIs K (α ++ [p]) F (upd H p o) p ob) : Wd K γ (α ++ [p]) F (upd H p o) (μ ++ [ob]) := by
  have fp : F p = none := w.sub.free hp
  have nin : ∀ k a, α[k]? = some a → a ≠ p := fun k a h1 e => w.there k a h1 (by rw [e]; exact hp)
  have spl : ∀ (k : Nat) a, (α ++ [p])[k]? = some a → α[k]? = some a ∨ (k = α.length ∧ a = p) := fun k a h1 => by
    by_cases hk : k < α.length
    · rw [List.getElem?_append_left hk] at h1
      exact .inl h1
    · have hl := (List.getElem?_eq_some_iff.mp h1).1
      rw [List.length_append, List.length_singleton] at hl
      have e : k = α.length := by omega
      subst e
      rw [List.getElem?_concat_length] at h1
      exact .inr ⟨rfl, (Option.some.inj h1).symm⟩
  refine ⟨by rw [List.length_append, List.length_append, w.len]; rfl, fun i j a h1 h2 => ?_, same_upd w.sub fp, fun k a h1 => ?_, fun k a ob' h1 h2 h3 => ?_, fun k a ob' h1 h2 => ?_, same_upd w.gs (w.gs.free hp), w.gf, fun k a h1 => ?_⟩
  · rcases spl i a h1 with x | ⟨x, y⟩ <;> rcases spl j a h2 with z | ⟨z, u⟩
    · exact w.inj i j a x z
    · exact absurd u (nin i a x)
    · exact absurd y (nin j a z)
    · rw [x, z]
  · rcases spl k a h1 with x | ⟨x, y⟩
    · rw [upd_ne (nin k a x)]
      exact w.there k a x
    · rw [y, upd_same]
      exact Option.some_ne_none _
  · rcases spl k a h1 with x | ⟨x, y⟩
    · have hk := (List.getElem?_eq_some_iff.mp x).1
      rw [w.len] at hk
      rw [List.getElem?_append_left hk] at h2
      exact w.apart k a ob' x h2 h3
    · rw [y]; exact fp
  · rcases spl k a h1 with x | ⟨x, y⟩
    · have hk := (List.getElem?_eq_some_iff.mp x).1
      rw [w.len] at hk
      rw [List.getElem?_append_left hk] at h2
      exact (w.obj k a ob' x h2).mono (List.prefix_append _ _) (Same.refl F) (upd_ne (nin k a x))
    · rw [x, w.len, List.getElem?_concat_length] at h2
      cases h2
      rw [y]
      exact h
  · rcases spl k a h1 with x | ⟨x, y⟩
    · exact w.ga k a x
    · rw [y]; exact w.gs.free hp
/-- an object of the store is changed -/
theorem Wd.put {a : Addr} {k : Nat} {o : HO} {ob ob' : Ob} (w : Wd K γ α F H μ) (ha : α[k]? = some a) (hk : μ[k]? = some ob) (hl : ob ≠ .dead) (h : ObIs K α F (upd H a o) a ob') : Wd K γ α F (upd H a o) (μ.set k ob') := by
  have fa : F a = none := w.apart k a ob ha hk hl
  have klt : k < μ.length := (List.getElem?_eq_some_iff.mp hk).1
  refine ⟨by rw [List.length_set]; exact w.len, w.inj, same_upd w.sub fa, fun j b h1 => ?_, fun j b ob2 h1 h2 h3 => ?_, fun j b ob2 h1 h2 => ?_, same_upd w.gs (w.ga k a ha), w.gf, w.ga⟩
  · by_cases e : b = a
    · rw [e, upd_same]; exact Option.some_ne_none _
    · rw [upd_ne e]; exact w.there j b h1
  · by_cases e : j = k
    · subst e
      rw [ha] at h1; cases h1
      exact fa
    · rw [List.getElem?_set_ne (Ne.symm e)] at h2
      exact w.apart j b ob2 h1 h2 h3
  · by_cases e : j = k
    · subst e
      rw [ha] at h1; cases h1
      rw [List.getElem?_set_self klt] at h2
      cases h2
      exact h
    · rw [List.getElem?_set_ne (Ne.symm e)] at h2
      have ne : b ≠ a := fun q => e (w.inj j k b h1 (by rw [q]; exact ha))
      exact (w.obj j b ob2 h1 h2).mono (List.prefix_refl _) (Same.refl F) (upd_ne ne)
/-- an object of the store stands still from now on -/
theorem Wd.frz {a : Addr} {k : Nat} {o : HO} {ob : Ob} (w : Wd K γ α F H μ) (ha : α[k]? = some a) (hk : μ[k]? = some ob) (hl : ob ≠ .dead) : Wd K γ α (upd F a o) (upd H a o) (μ.set k .dead) := by
  have fa : F a = none := w.apart k a ob ha hk hl
  have klt : k < μ.length := (List.getElem?_eq_some_iff.mp hk).1
  refine ⟨by rw [List.length_set]; exact w.len, w.inj, same_both w.sub, fun j b h1 => ?_, fun j b ob2 h1 h2 h3 => ?_, fun j b ob2 h1 h2 => ?_, same_upd w.gs (w.ga k a ha), fun b h1 => ?_, w.ga⟩
  · by_cases e : b = a
    · rw [e, upd_same]; exact Option.some_ne_none _
    · rw [upd_ne e]; exact w.there j b h1
  · by_cases e : j = k
    · subst e
      rw [List.getElem?_set_self klt] at h2
      cases h2
      exact absurd rfl h3
    · rw [List.getElem?_set_ne (Ne.symm e)] at h2
      have ne : b ≠ a := fun q => e (w.inj j k b h1 (by rw [q]; exact ha))
      rw [upd_ne ne]
      exact w.apart j b ob2 h1 h2 h3
  · by_cases e : j = k
    · subst e
      rw [List.getElem?_set_self klt] at h2
      cases h2
      trivial
    · rw [List.getElem?_set_ne (Ne.symm e)] at h2
      have ne : b ≠ a := fun q => e (w.inj j k b h1 (by rw [q]; exact ha))
      exact (w.obj j b ob2 h1 h2).mono (List.prefix_refl _) (same_new fa) (upd_ne ne)
  · have ne : b ≠ a := fun e => h1 (by rw [e]; exact w.ga k a ha)
    rw [upd_ne ne]
    exact w.gf b h1
theorem upd_id {a : Addr} {o : HO} (h : H a = some o) : upd H a o = H := by
  funext b
  by_cases e : b = a
  · rw [e, upd_same, h]
  · rw [upd_ne e]
/-- what was made on the way is forgotten -/
theorem Wd.cut {n : Nat} (w : Wd K γ α F H μ) (h : ∀ (k : Nat) o, k < n → μ[k]? = some o → o.sc n = true) : Wd K γ (α.take n) F H (μ.take n) := by
  have tk : ∀ (k : Nat) a, (α.take n)[k]? = some a → k < n ∧ α[k]? = some a := fun k a e => by
    have hl := (List.getElem?_eq_some_iff.mp e).1
    rw [List.length_take] at hl
    have hk : k < n := by omega
    rw [List.getElem?_take_of_lt hk] at e
    exact ⟨hk, e⟩
  refine ⟨by rw [List.length_take, List.length_take, w.len], fun i j a h1 h2 => w.inj i j a (tk i a h1).2 (tk j a h2).2, w.sub, fun k a h1 => w.there k a (tk k a h1).2, fun k a o h1 h2 h3 => ?_, fun k a o h1 h2 => ?_, w.gs, w.gf, fun k a h1 => w.ga k a (tk k a h1).2⟩
  · obtain ⟨hk, q⟩ := tk k a h1
    rw [List.getElem?_take_of_lt hk] at h2
    exact w.apart k a o q h2 h3
  · obtain ⟨hk, q⟩ := tk k a h1
    rw [List.getElem?_take_of_lt hk] at h2
    exact (w.obj k a o q h2).cut (h k o hk h2)
end
end DL

/-! The data layer, b: readings of expressions as functions. -/
namespace DL
open PySem L2

structure Exn where
  cls : Value
  fs : List Str
  xs : List D
inductive R (β : Type) where
  | ok (b : β) (μ : List Ob)
  | exc (x : Exn) (μ : List Ob)
  | bad
def R.bind {β τ : Type} (r : R β) (f : β → List Ob → R τ) : R τ := match r with
  | .ok b μ => f b μ
  | .exc x μ => .exc x μ
  | .bad => .bad
@[simp] theorem R.ok_bind {β τ : Type} (b : β) (μ : List Ob) (f : β → List Ob → R τ) : (R.ok b μ).bind f = f b μ := rfl
@[simp] theorem R.exc_bind {β τ : Type} (x : Exn) (μ : List Ob) (f : β → List Ob → R τ) : (R.exc x μ : R β).bind f = .exc x μ := rfl
@[simp] theorem R.bad_bind {β τ : Type} (f : β → List Ob → R τ) : (R.bad : R β).bind f = .bad := rfl

abbrev Sl := List (Option D)
abbrev RE := Sl → List Ob → R D
abbrev RT := Sl → List Ob → R Bool
abbrev RA := Sl → List Ob → R (List D)

structure SlIs (K : PySem.W.Frag) (α : List Addr) (F : Hp) (σ : St) (δ : Sl) : Prop where
  len : σ.length = δ.length
  at_ : ∀ (i : Nat) d, δ[i]? = some (some d) → ∃ v, σ[i]? = some (some v) ∧ Is K α F v d

section
variable {K : PySem.W.Frag} {γ : Hp} {α α' α1 : List Addr} {F F' F1 H H' : Hp} {σ : St} {δ : Sl} {μ : List Ob}
theorem SlIs.mono (s : SlIs K α F σ δ) (p : α <+: α') (e : Same F F') : SlIs K α' F' σ δ :=
  ⟨s.len, fun i d h => let ⟨v, h1, h2⟩ := s.at_ i d h; ⟨v, h1, h2.mono p e⟩⟩
theorem SlIs.set {v : V} {d : D} (s : SlIs K α F σ δ) (i : Nat) (h : Is K α F v d) : SlIs K α F (σ.set i (some v)) (δ.set i (some d)) := by
  refine ⟨by rw [List.length_set, List.length_set]; exact s.len, fun j e q => ?_⟩
  by_cases hj : j = i
  · subst hj
    have hl : j < δ.length := by
      have := (List.getElem?_eq_some_iff.mp q).1
      rw [List.length_set] at this
      exact this
    rw [List.getElem?_set_self hl] at q
    cases q
    exact ⟨v, List.getElem?_set_self (by rw [s.len]; exact hl), h⟩
  · rw [List.getElem?_set_ne (Ne.symm hj)] at q
    obtain ⟨u, h1, h2⟩ := s.at_ j e q
    exact ⟨u, by rw [List.getElem?_set_ne (Ne.symm hj)]; exact h1, h2⟩
theorem SlIs.unset (s : SlIs K α F σ δ) (i : Nat) : SlIs K α F (σ.set i none) (δ.set i none) := by
  refine ⟨by rw [List.length_set, List.length_set]; exact s.len, fun j e q => ?_⟩
  by_cases hj : j = i
  · subst hj
    have hl : j < δ.length := by
      have := (List.getElem?_eq_some_iff.mp q).1
      rw [List.length_set] at this
      exact this
    rw [List.getElem?_set_self hl] at q
    cases q
  · rw [List.getElem?_set_ne (Ne.symm hj)] at q
    obtain ⟨u, h1, h2⟩ := s.at_ j e q
    exact ⟨u, by rw [List.getElem?_set_ne (Ne.symm hj)]; exact h1, h2⟩
/-- the slots vs forgotten -/
def wipeD (δ : Sl) : List Nat → Sl
  | [] => δ
  | v :: vs => (wipeD δ vs).set v none
theorem SlIs.wipe (s : SlIs K α F σ δ) : ∀ vs : List Nat, SlIs K α F (L2.wipe σ vs) (wipeD δ vs)
  | [] => s
  | v :: vs => (SlIs.wipe s vs).unset v

/-- an exception as it lies -/
def XIs (K : PySem.W.Frag) (α : List Addr) (F : Hp) (x : Exn) (c : Value) (dd : Option Addr) : Prop :=
  c = x.cls ∧ ((dd = none ∧ x.fs = [] ∧ x.xs = []) ∨ ∃ d fv, dd = some d ∧ F d = some (.xd fv) ∧ fv.map (·.1) = x.fs ∧ IsL K α F (fv.map (·.2)) x.xs)
theorem XIs.mono {x : Exn} {c : Value} {dd : Option Addr} (h : XIs K α F x c dd) (p : α <+: α') (e : Same F F') : XIs K α' F' x c dd := by
  obtain ⟨h1, h2 | ⟨d, fv, h3, h4, h5, h6⟩⟩ := h
  · exact ⟨h1, .inl h2⟩
  · exact ⟨h1, .inr ⟨d, fv, h3, e _ _ h4, h5, h6.mono p e⟩⟩

/-- how a reading ends: ok's wish, an exception's wish -/
def Fin {β : Type} (K : PySem.W.Frag) (γ : Hp) (α : List Addr) (F : Hp) (r : R β) (ok : β → List Ob → List Addr → Hp → Hp → Prop) (E : XK) : Prop :=
  match r with
  | .ok b μ => ∀ α' F' H', α <+: α' → Same F F' → Wd K γ α' F' H' μ → ok b μ α' F' H'
  | .exc x μ => ∀ α' F' H' c dd, α <+: α' → Same F F' → Wd K γ α' F' H' μ → XIs K α' F' x c dd → E c dd H'
  | .bad => False
abbrev okD (K : PySem.W.Frag) (Q : VK) : D → List Ob → List Addr → Hp → Hp → Prop := fun d _ α' F' H' => ∀ v, Is K α' F' v d → Q v H'
abbrev okB (Q : Bool → Hp → Prop) : Bool → List Ob → List Addr → Hp → Hp → Prop := fun b _ _ _ H' => Q b H'
abbrev okL (K : PySem.W.Frag) (Q : List V → Hp → Prop) : List D → List Ob → List Addr → Hp → Hp → Prop := fun ds _ α' F' H' => ∀ vs, IsL K α' F' vs ds → Q vs H'
theorem Fin.up {β : Type} {r : R β} {ok : β → List Ob → List Addr → Hp → Hp → Prop} {E : XK} (p : α <+: α1) (e : Same F F1) (h : Fin K γ α F r ok E) : Fin K γ α1 F1 r ok E := by
  cases r with
  | ok b μ => exact fun α' F' H' p' e' w => h α' F' H' (p.trans p') (e.trans e') w
  | exc x μ => exact fun α' F' H' c dd p' e' w q => h α' F' H' c dd (p.trans p') (e.trans e') w q
  | bad => exact h

def tD (K : PySem.W.Frag) (W : WX) (f : RE) : TE := fun σ H Q => ∃ γ α F μ δ, Wd K γ α F H μ ∧ SlIs K α F σ δ ∧ Fin K γ α F (f δ μ) (okD K Q) (fun c dd H' => W c dd σ H')
def tDT (K : PySem.W.Frag) (W : WX) (f : RT) : TT := fun σ H Q => ∃ γ α F μ δ, Wd K γ α F H μ ∧ SlIs K α F σ δ ∧ Fin K γ α F (f δ μ) (okB Q) (fun c dd H' => W c dd σ H')
def tDA (K : PySem.W.Frag) (W : WX) (f : RA) : TA := fun σ H Q => ∃ γ α F μ δ, Wd K γ α F H μ ∧ SlIs K α F σ δ ∧ Fin K γ α F (f δ μ) (okL K Q) (fun c dd H' => W c dd σ H')

variable {W : WX}
/-- the step: what f gives is handed on -/
theorem tD_go {τ : Type} {f : RE} {g : D → List Ob → R τ} {ok : τ → List Ob → List Addr → Hp → Hp → Prop} {Q : VK} (w : Wd K γ α F H μ) (s : SlIs K α F σ δ) (q : Fin K γ α F ((f δ μ).bind g) ok (fun c dd H' => W c dd σ H'))
    (k : ∀ d μ1 α1 F1 H1 v, α <+: α1 → Same F F1 → Wd K γ α1 F1 H1 μ1 → SlIs K α1 F1 σ δ → Is K α1 F1 v d → Fin K γ α1 F1 (g d μ1) ok (fun c dd H' => W c dd σ H') → Q v H1) : tD K W f σ H Q := by
  refine ⟨γ, α, F, μ, δ, w, s, ?_⟩
  cases hf : f δ μ with
  | ok d μ1 =>
    rw [hf] at q
    exact fun α1 F1 H1 p e w1 v hv => k d μ1 α1 F1 H1 v p e w1 (s.mono p e) hv (q.up p e)
  | exc x μ1 =>
    rw [hf] at q
    exact q
  | bad =>
    rw [hf] at q
    exact q
theorem tDT_go {τ : Type} {f : RT} {g : Bool → List Ob → R τ} {ok : τ → List Ob → List Addr → Hp → Hp → Prop} {Q : Bool → Hp → Prop} (w : Wd K γ α F H μ) (s : SlIs K α F σ δ) (q : Fin K γ α F ((f δ μ).bind g) ok (fun c dd H' => W c dd σ H'))
    (k : ∀ b μ1 α1 F1 H1, α <+: α1 → Same F F1 → Wd K γ α1 F1 H1 μ1 → SlIs K α1 F1 σ δ → Fin K γ α1 F1 (g b μ1) ok (fun c dd H' => W c dd σ H') → Q b H1) : tDT K W f σ H Q := by
  refine ⟨γ, α, F, μ, δ, w, s, ?_⟩
  cases hf : f δ μ with
  | ok d μ1 =>
    rw [hf] at q
    exact fun α1 F1 H1 p e w1 => k d μ1 α1 F1 H1 p e w1 (s.mono p e) (q.up p e)
  | exc x μ1 =>
    rw [hf] at q
    exact q
  | bad =>
    rw [hf] at q
    exact q
theorem tDA_go {τ : Type} {f : RA} {g : List D → List Ob → R τ} {ok : τ → List Ob → List Addr → Hp → Hp → Prop} {Q : List V → Hp → Prop} (w : Wd K γ α F H μ) (s : SlIs K α F σ δ) (q : Fin K γ α F ((f δ μ).bind g) ok (fun c dd H' => W c dd σ H'))
    (k : ∀ ds μ1 α1 F1 H1 vs, α <+: α1 → Same F F1 → Wd K γ α1 F1 H1 μ1 → SlIs K α1 F1 σ δ → IsL K α1 F1 vs ds → Fin K γ α1 F1 (g ds μ1) ok (fun c dd H' => W c dd σ H') → Q vs H1) : tDA K W f σ H Q := by
  refine ⟨γ, α, F, μ, δ, w, s, ?_⟩
  cases hf : f δ μ with
  | ok d μ1 =>
    rw [hf] at q
    exact fun α1 F1 H1 p e w1 v hv => k d μ1 α1 F1 H1 v p e w1 (s.mono p e) hv (q.up p e)
  | exc x μ1 =>
    rw [hf] at q
    exact q
  | bad =>
    rw [hf] at q
    exact q
/-- .. the last step -/
theorem bind_pure {β : Type} (r : R β) : r.bind (fun b μ => .ok b μ) = r := by cases r <;> rfl

/-! ### an object looked at -/
def D.view (μ : List Ob) : D → D
  | .loc k => match μ[k]? with
    | some (.lst xs) => .lst xs
    | some (.dct ks xs) => .dct ks xs
    | some (.ins C fs xs) => .ins C fs xs
    | _ => .loc k
  | d => d
def Vw (K : PySem.W.Frag) (α : List Addr) (F H : Hp) (v : V) : D → Prop
  | .lst ds => ∃ a vs, v = .ref a ∧ H a = some (.lst vs) ∧ IsL K α F vs ds
  | .frl ds => ∃ a vs, v = .ref a ∧ SqL K H a vs ∧ IsL K α F vs ds
  | .tup ds => ∃ a vs, v = .ref a ∧ SqT K H a vs ∧ IsL K α F vs ds
  | .dct ks ds => ∃ a kvs, v = .ref a ∧ RdD H a kvs ∧ kvs.map (·.1) = ks ∧ IsL K α F (kvs.map (·.2)) ds
  | .ins C fs ds => ∃ a dx fv, v = .ref a ∧ H a = some (.ins C dx fv) ∧ fv.map (·.1) = fs ∧ IsL K α F (fv.map (·.2)) ds
  | d => Is K α F v d
theorem view_loc {k : Nat} : (D.loc k).view μ = match μ[k]? with
    | some (.lst xs) => .lst xs
    | some (.dct ks xs) => .dct ks xs
    | some (.ins C fs xs) => .ins C fs xs
    | _ => .loc k := rfl
theorem Wd.view (w : Wd K γ α F H μ) {v : V} {d : D} (h : Is K α F v d) : Vw K α F H v (d.view μ) := by
  cases h with
  | loc hk =>
    rename_i a k
    cases hm : μ[k]? with
    | none =>
      have e : (D.loc k).view μ = .loc k := by rw [view_loc, hm]
      rw [e]
      exact Is.loc hk
    | some o =>
      have ho := w.obj k a o hk hm
      cases o with
      | lst ds =>
        have e : (D.loc k).view μ = .lst ds := by rw [view_loc, hm]
        rw [e]
        obtain ⟨vs, h1, h2⟩ := ho
        exact ⟨a, vs, rfl, h1, h2⟩
      | dct ks ds =>
        have e : (D.loc k).view μ = .dct ks ds := by rw [view_loc, hm]
        rw [e]
        obtain ⟨kvs, h1, h2, h3⟩ := ho
        exact ⟨a, kvs, rfl, .inl h1, h2, h3⟩
      | ins C fs ds =>
        have e : (D.loc k).view μ = .ins C fs ds := by rw [view_loc, hm]
        rw [e]
        obtain ⟨dx, fv, h1, h2, h3⟩ := ho
        exact ⟨a, dx, fv, rfl, h1, h2, h3⟩
      | dead =>
        have e : (D.loc k).view μ = .loc k := by rw [view_loc, hm]
        rw [e]
        exact Is.loc hk
  | non => exact Is.non
  | bl b => exact Is.bl b
  | int i => exact Is.int i
  | str s => exact Is.str s
  | tup h l => exact ⟨_, _, rfl, sqt_mono w.sub h, l⟩
  | lst h l => exact ⟨_, _, rfl, w.sub _ _ h, l⟩
  | frl h l => exact ⟨_, _, rfl, w.sub.seq h, l⟩
  | dct h q l => exact ⟨_, _, rfl, (fzd_mono w.sub h).rd, q, l⟩
  | ins h q l => exact ⟨_, _, _, rfl, w.sub _ _ h, q, l⟩
  | vv => exact Is.vv _
theorem Is.toInt {v : V} {i : Int} (h : Is K α F v (.int i)) : v = .int i := by cases h; rfl
theorem Is.toStr {v : V} {i : Str} (h : Is K α F v (.str i)) : v = .str i := by cases h; rfl
theorem Is.toBl {v : V} {i : Bool} (h : Is K α F v (.bl i)) : v = .bl i := by cases h; rfl
theorem Is.toNon {v : V} (h : Is K α F v .non) : v = .non := by cases h; rfl
theorem Is.toVv {v x : V} (h : Is K α F v (.vv x)) : v = x := by cases h; rfl
end

/-! ### rules: expressions -/
theorem pe_weak {X : Cx} {e : Expr} {t t' : TE} (h : PE X e t) (i : ∀ σ H Q, t' σ H Q → t σ H Q) : PE X e t' := ⟨fun pins s σ H Q I q => h.run pins s σ H Q I (i _ _ _ q)⟩
theorem pt_weak {X : Cx} {e : Expr} {t t' : TT} (h : PT X e t) (i : ∀ σ H Q, t' σ H Q → t σ H Q) : PT X e t' := ⟨fun pins s σ H Q I q => h.run pins s σ H Q I (i _ _ _ q)⟩
theorem pw_weak {X : Cx} {e : Expr} {t t' : TT} (h : PW X e t) (i : ∀ σ H Q, t' σ H Q → t σ H Q) : PW X e t' := ⟨fun wh pins s σ H Q I q => h.run wh pins s σ H Q I (i _ _ _ q)⟩
theorem pa_weak {X : Cx} {e : List Expr} {t t' : TA} (h : PA X e t) (i : ∀ σ H Q, t' σ H Q → t σ H Q) : PA X e t' := ⟨fun pos pins s σ H Q I q => h.run pos pins s σ H Q I (i _ _ _ q)⟩
abbrev PD (X : Cx) (W : WX) (e : Expr) (f : RE) : Prop := PE X e (tD X.K W f)
abbrev PDT (X : Cx) (W : WX) (e : Expr) (f : RT) : Prop := PT X e (tDT X.K W f)
abbrev PDW (X : Cx) (W : WX) (e : Expr) (f : RT) : Prop := PW X e (tDT X.K W f)
abbrev PDA (X : Cx) (W : WX) (es : List Expr) (f : RA) : Prop := PA X es (tDA X.K W f)

section
variable {X : Cx} {W : WX} {a b c e : Expr} {es : List Expr} {fa fb fc f : RE} {ft fu : RT} {fs : RA} {pos p : Pos}

def rVar (i : Nat) : RE := fun δ μ => match δ[i]? with
  | some (some d) => .ok d μ
  | _ => .bad
def rC (d : D) : RE := fun _ μ => .ok d μ
theorem pd_var (i : Nat) {x : Str} (hN : X.N[i]? = some x := by rfl) (hv : Vis X.env.scope x := by first | exact Or.inl rfl | exact Or.inr (Or.inl rfl) | exact Or.inr (Or.inr rfl)) (hd : (x == ("__debug__" : Str)) = false := by decide)
    (hcd : (x == ("__classdict__" : Str)) = false := by decide) : PD X W (.Name x pos) (rVar i) :=
  pe_weak (pe_var hN hv hd hcd) fun σ H Q ⟨γ, α, F, μ, δ, w, s, q⟩ => by
    unfold rVar at q
    cases hd : δ[i]? with
    | none => rw [hd] at q; exact q.elim
    | some o =>
      cases o with
      | none => rw [hd] at q; exact q.elim
      | some d =>
        rw [hd] at q
        obtain ⟨v, h1, h2⟩ := s.at_ i d hd
        exact ⟨v, h1, q α F H (List.prefix_refl _) (Same.refl F) w v h2⟩
theorem pd_c {v : V} {d : D} (h : PE X e (tC v)) (hv : ∀ α F, Is X.K α F v d) : PD X W e (rC d) :=
  pe_weak h fun σ H Q ⟨γ, α, F, μ, δ, w, s, q⟩ => q α F H (List.prefix_refl _) (Same.refl F) w v (hv α F)
theorem pd_int {i : Int} {j : Nat} : PD X W (.Constant (.int i) j pos) (rC (.int i)) := pd_c pe_int fun _ _ => .int i
theorem pd_bl {i : Bool} {j : Nat} : PD X W (.Constant (.bool i) j pos) (rC (.bl i)) := pd_c pe_bl fun _ _ => .bl i
theorem pd_non {j : Nat} : PD X W (.Constant .none j pos) (rC .non) := pd_c pe_non fun _ _ => .non
theorem pd_str {i : Str} {j : Nat} : PD X W (.Constant (.str i) j pos) (rC (.str i)) := pd_c pe_str fun _ _ => .str i
/-- a module's constant -/
theorem pd_glob {x : Str} {v : V} {u : Value} {d : D} (hg : Gl X x) (hm : X.mg x = some u) (r : RelV v u) (hv : ∀ α F, Is X.K α F v d) (hd : (x == ("__debug__" : Str)) = false := by decide) : PD X W (.Name x pos) (rC d) :=
  pd_c (pe_glob hg hm r hd) hv
/-- a built-in's name as a value -/
theorem pd_bltn {x : Str} {v : V} {u : Value} (hg : Gl X x) (hm : X.mg x = none) (hv : bootBuiltins x = some u) (r : RelV v u) (hn : x ≠ "__name__" := by decide) (hd : (x == ("__debug__" : Str)) = false := by decide) : PD X W (.Name x pos) (rC (.vv v)) :=
  pd_c (pe_bltn hg hm hv r hn hd) fun _ _ => .vv v

/-- two values, then an operation on them -/
def rBin (g : D → D → List Ob → R D) (fa fb : RE) : RE := fun δ μ => (fa δ μ).bind fun d μ1 => (fb δ μ1).bind fun e μ2 => g d e μ2
def Op2 (K : PySem.W.Frag) (r : R2) (g : D → D → List Ob → R D) : Prop :=
  ∀ γ α F H μ x y d e Q E, Wd K γ α F H μ → Is K α F x d → Is K α F y e → Fin K γ α F (g d e μ) (okD K Q) E → r x y H Q
theorem tD_bin {K : PySem.W.Frag} {r : R2} {g : D → D → List Ob → R D} (h : Op2 K r g) (σ : St) (H : Hp) (Q : VK) : tD K W (rBin g fa fb) σ H Q → tOp r (tD K W fa) (tD K W fb) σ H Q := fun ⟨γ, α, F, μ, δ, w, s, q⟩ =>
  tD_go w s q fun d μ1 α1 F1 H1 x p1 e1 w1 s1 hx q1 => tD_go w1 s1 q1 fun e μ2 α2 F2 H2 y p2 e2 w2 s2 hy q2 =>
    h γ α2 F2 H2 μ2 x y d e Q _ w2 (hx.mono p2 e2) hy q2
theorem pd_bin {op : Operator} {r : R2} {g : D → D → List Ob → R D} (ho : OpR X (binaryOp op) r) (h : Op2 X.K r g) (ha : PD X W a fa) (hb : PD X W b fb) : PD X W (.BinOp a op b pos) (rBin g fa fb) :=
  pe_weak (pe_op ho ha hb) (tD_bin h)
theorem pd_cmp {op : CmpOp} {r : R2} {g : D → D → List Ob → R D} (ho : OpR X (compareOp op) r) (h : Op2 X.K r g) (hm : behindInMarks op b = false) (ha : PD X W a fa) (hb : PD X W b fb) : PD X W (.Compare a [op] [b] pos) (rBin g fa fb) :=
  pe_weak (pe_cmpR ho ha hb hm) (tD_bin h)
/-- a value as a test, a True or False -/
def rT (f : RE) : RT := fun δ μ => (f δ μ).bind fun d μ1 => match d with
  | .bl b => .ok b μ1
  | _ => .bad
theorem tDT_of {K : PySem.W.Frag} {t : TE} (h : ∀ σ H Q, tD K W f σ H Q → t σ H Q) (σ : St) (H : Hp) (Q : Bool → Hp → Prop) : tDT K W (rT f) σ H Q → tTest t σ H Q := fun ⟨γ, α, F, μ, δ, w, s, q⟩ =>
  h σ H _ (tD_go w s q fun d μ1 α1 F1 H1 x p1 e1 w1 s1 hx q1 => by
    cases d with
    | bl b => cases hx; exact ⟨b, rfl, q1 α1 F1 H1 (List.prefix_refl _) (Same.refl F1) w1⟩
    | _ => exact q1.elim)
theorem pdt_cmp {op : CmpOp} {r : R2} {g : D → D → List Ob → R D} (ho : OpR X (compareOp op) r) (h : Op2 X.K r g) (hm : behindInMarks op b = false) (ha : PD X W a fa) (hb : PD X W b fb) : PDT X W (.Compare a [op] [b] pos) (rT (rBin g fa fb)) :=
  pt_weak (pt_cmpR ho ha hb hm) (tDT_of (tD_bin h))
theorem pdt_val (h : PD X W e f) (he : ∀ whole, isTrue e X.env whole = (do let v ← whole; standAt e.pos; holding [v] (truthy v)) := by intro _; rfl) : PDT X W e (rT f) :=
  pt_weak (pt_val h he) (tDT_of fun _ _ _ q => q)
/-- a op1 b op2 c -/
def rChain (g g' : D → D → List Ob → R D) (fa fb fc : RE) : RE := fun δ μ => (fa δ μ).bind fun d μ1 => (fb δ μ1).bind fun e μ2 => (g d e μ2).bind fun z μ3 => match z with
  | .bl true => (fc δ μ3).bind fun k μ4 => g' e k μ4
  | .bl false => .ok (.bl false) μ3
  | _ => .bad
theorem tD_chain {K : PySem.W.Frag} {r r' : R2} {g g' : D → D → List Ob → R D} (h : Op2 K r g) (h' : Op2 K r' g') (hn : ∀ d e μ x μ', g d e μ ≠ .exc x μ') (σ : St) (H : Hp) (Q : VK) :
    tD K W (rChain g g' fa fb fc) σ H Q → tChain r r' (tD K W fa) (tD K W fb) (tD K W fc) σ H Q := fun ⟨γ, α, F, μ, δ, w, s, q⟩ =>
  tD_go w s q fun d μ1 α1 F1 H1 x p1 e1 w1 s1 hx q1 => tD_go w1 s1 q1 fun e μ2 α2 F2 H2 y p2 e2 w2 s2 hy q2 => by
    refine h γ α2 F2 H2 μ2 x y d e _ (fun _ _ _ => False) w2 (hx.mono p2 e2) hy ?_
    cases hg : g d e μ2 with
    | ok z μ3 =>
      rw [hg] at q2
      intro α3 F3 H3 p3 e3 w3 v hv
      have q3 := Fin.up p3 e3 q2
      cases z with
      | bl k =>
        cases hv
        refine ⟨k, rfl, ?_⟩
        cases k with
        | true =>
          rw [if_pos rfl]
          refine tD_go w3 (s2.mono p3 e3) q3 fun k μ4 α4 F4 H4 z p4 e4 w4 s4 hz q4 => ?_
          exact h' γ α4 F4 H4 μ4 y z e k Q _ w4 (hy.mono (p3.trans p4) (e3.trans e4)) hz q4
        | false =>
          rw [if_neg Bool.false_ne_true]
          exact q3 α3 F3 H3 (List.prefix_refl _) (Same.refl F3) w3 _ (.bl false)
      | _ => exact q3.elim
    | exc x μ3 => exact absurd hg (hn _ _ _ _ _)
    | bad => rw [hg] at q2; exact q2.elim
theorem pd_chain {op op' : CmpOp} {r r' : R2} {g g' : D → D → List Ob → R D} (ho : OpR X (compareOp op) r) (ho' : OpR X (compareOp op') r') (h : Op2 X.K r g) (h' : Op2 X.K r' g') (hn : ∀ d e μ x μ', g d e μ ≠ .exc x μ')
    (ha : PD X W a fa) (hb : PD X W b fb) (hc : PD X W c fc) (hm : lastMarks [op, op'] [b, c] = false := by with_unfolding_all rfl) : PD X W (.Compare a [op, op'] [b, c] pos) (rChain g g' fa fb fc) :=
  pe_weak (pe_chain ho ho' ha hb hc hm) (tD_chain h h' hn)
theorem pdt_chain {op op' : CmpOp} {r r' : R2} {g g' : D → D → List Ob → R D} (ho : OpR X (compareOp op) r) (ho' : OpR X (compareOp op') r') (h : Op2 X.K r g) (h' : Op2 X.K r' g') (hn : ∀ d e μ x μ', g d e μ ≠ .exc x μ')
    (ha : PD X W a fa) (hb : PD X W b fb) (hc : PD X W c fc) (hm : lastMarks [op, op'] [b, c] = false := by with_unfolding_all rfl) : PDT X W (.Compare a [op, op'] [b, c] pos) (rT (rChain g g' fa fb fc)) :=
  pt_weak (pt_chain ho ho' ha hb hc hm) (tDT_of (tD_chain h h' hn))

/-! ### and, or, not -/
def rAndT (t u : RT) : RT := fun δ μ => (t δ μ).bind fun k μ1 => match k with
  | true => u δ μ1
  | false => .ok false μ1
def rOrT (t u : RT) : RT := fun δ μ => (t δ μ).bind fun k μ1 => match k with
  | true => .ok true μ1
  | false => u δ μ1
def rNotT (t : RT) : RT := fun δ μ => (t δ μ).bind fun k μ1 => .ok (!k) μ1
theorem tDT_last {K : PySem.W.Frag} {γ : Hp} {α : List Addr} {F H : Hp} {μ : List Ob} {σ : St} {δ : Sl} {t : RT} {Q : Bool → Hp → Prop} (w : Wd K γ α F H μ) (s : SlIs K α F σ δ) (q : Fin K γ α F (t δ μ) (okB Q) (fun c dd H' => W c dd σ H')) : tDT K W t σ H Q := ⟨γ, α, F, μ, δ, w, s, q⟩
theorem tD_last {K : PySem.W.Frag} {γ : Hp} {α : List Addr} {F H : Hp} {μ : List Ob} {σ : St} {δ : Sl} {t : RE} {Q : VK} (w : Wd K γ α F H μ) (s : SlIs K α F σ δ) (q : Fin K γ α F (t δ μ) (okD K Q) (fun c dd H' => W c dd σ H')) : tD K W t σ H Q := ⟨γ, α, F, μ, δ, w, s, q⟩
theorem pdw_and1 (ha : PDT X W a ft) : PDW X W (.BoolOp .And [a] pos) ft := pw_and1 ha
theorem pdw_or1 (ha : PDT X W a ft) : PDW X W (.BoolOp .Or [a] pos) ft := pw_or1 ha
theorem pdw_and {rest : List Expr} (ha : PDT X W a ft) (hb : PDW X W (.BoolOp .And (b :: rest) pos) fu) : PDW X W (.BoolOp .And (a :: b :: rest) pos) (rAndT ft fu) :=
  pw_weak (pw_and ha hb) fun σ H Q ⟨γ, α, F, μ, δ, w, s, q⟩ => tDT_go w s q fun k μ1 α1 F1 H1 p1 e1 w1 s1 q1 => by
    cases k with
    | true => rw [if_pos rfl]; exact tDT_last w1 s1 q1
    | false => rw [if_neg Bool.false_ne_true]; exact q1 α1 F1 H1 (List.prefix_refl _) (Same.refl F1) w1
theorem pdw_or {rest : List Expr} (ha : PDT X W a ft) (hb : PDW X W (.BoolOp .Or (b :: rest) pos) fu) : PDW X W (.BoolOp .Or (a :: b :: rest) pos) (rOrT ft fu) :=
  pw_weak (pw_or ha hb) fun σ H Q ⟨γ, α, F, μ, δ, w, s, q⟩ => tDT_go w s q fun k μ1 α1 F1 H1 p1 e1 w1 s1 q1 => by
    cases k with
    | false => rw [if_neg Bool.false_ne_true]; exact tDT_last w1 s1 q1
    | true => rw [if_pos rfl]; exact q1 α1 F1 H1 (List.prefix_refl _) (Same.refl F1) w1
theorem pdt_w (h : PDW X W e ft) : PDT X W e ft := PW.pt h
theorem pdt_not (ha : PDT X W a ft) : PDT X W (.UnaryOp .Not a pos) (rNotT ft) :=
  pt_weak (pt_not ha) fun σ H Q ⟨γ, α, F, μ, δ, w, s, q⟩ => tDT_go w s q fun k μ1 α1 F1 H1 p1 e1 w1 s1 q1 => q1 α1 F1 H1 (List.prefix_refl _) (Same.refl F1) w1
/-- .. as values: all but the last True or False -/
def rAndV (fa fb : RE) : RE := fun δ μ => (fa δ μ).bind fun d μ1 => match d with
  | .bl true => fb δ μ1
  | .bl false => .ok (.bl false) μ1
  | _ => .bad
def rOrV (fa fb : RE) : RE := fun δ μ => (fa δ μ).bind fun d μ1 => match d with
  | .bl true => .ok (.bl true) μ1
  | .bl false => fb δ μ1
  | _ => .bad
def rNotV (fa : RE) : RE := fun δ μ => (fa δ μ).bind fun d μ1 => match d with
  | .bl k => .ok (.bl (!k)) μ1
  | _ => .bad
theorem pd_one {op : BoolOp} (h : PD X W a f) : PD X W (.BoolOp op [a] pos) f := pe_one h
theorem pd_and {rest : List Expr} (ha : PD X W a fa) (hb : PD X W (.BoolOp .And (b :: rest) pos) fb) : PD X W (.BoolOp .And (a :: b :: rest) pos) (rAndV fa fb) :=
  pe_weak (pe_and ha hb) fun σ H Q ⟨γ, α, F, μ, δ, w, s, q⟩ => tD_go w s q fun d μ1 α1 F1 H1 v p1 e1 w1 s1 hv q1 => by
    cases d with
    | bl k =>
      cases hv
      refine ⟨k, rfl, ?_⟩
      cases k with
      | true => rw [if_pos rfl]; exact tD_last w1 s1 q1
      | false => rw [if_neg Bool.false_ne_true]; exact q1 α1 F1 H1 (List.prefix_refl _) (Same.refl F1) w1 _ (.bl false)
    | _ => exact q1.elim
theorem pd_or {rest : List Expr} (ha : PD X W a fa) (hb : PD X W (.BoolOp .Or (b :: rest) pos) fb) : PD X W (.BoolOp .Or (a :: b :: rest) pos) (rOrV fa fb) :=
  pe_weak (pe_or ha hb) fun σ H Q ⟨γ, α, F, μ, δ, w, s, q⟩ => tD_go w s q fun d μ1 α1 F1 H1 v p1 e1 w1 s1 hv q1 => by
    cases d with
    | bl k =>
      cases hv
      refine ⟨k, rfl, ?_⟩
      cases k with
      | false => rw [if_neg Bool.false_ne_true]; exact tD_last w1 s1 q1
      | true => rw [if_pos rfl]; exact q1 α1 F1 H1 (List.prefix_refl _) (Same.refl F1) w1 _ (.bl true)
    | _ => exact q1.elim
theorem pd_not (ha : PD X W a fa) : PD X W (.UnaryOp .Not a pos) (rNotV fa) :=
  pe_weak (pe_not ha) fun σ H Q ⟨γ, α, F, μ, δ, w, s, q⟩ => tD_go w s q fun d μ1 α1 F1 H1 v p1 e1 w1 s1 hv q1 => by
    cases d with
    | bl k => cases hv; exact ⟨k, rfl, q1 α1 F1 H1 (List.prefix_refl _) (Same.refl F1) w1 _ (.bl _)⟩
    | _ => exact q1.elim
/-- a if t else b -/
def rIf (t : RT) (fa fb : RE) : RE := fun δ μ => (t δ μ).bind fun k μ1 => match k with
  | true => fa δ μ1
  | false => fb δ μ1
theorem pd_if (hc : PDT X W c ft) (ha : PD X W a fa) (hb : PD X W b fb) : PD X W (.IfExp c a b pos) (rIf ft fa fb) :=
  pe_weak (pe_ifExp hc ha hb) fun σ H Q ⟨γ, α, F, μ, δ, w, s, q⟩ => tDT_go w s q fun k μ1 α1 F1 H1 p1 e1 w1 s1 q1 => by
    cases k with
    | true => rw [if_pos rfl]; exact tD_last w1 s1 q1
    | false => rw [if_neg Bool.false_ne_true]; exact tD_last w1 s1 q1

/-! ### arguments, displays -/
def rNil : RA := fun _ μ => .ok [] μ
def rCons (fa : RE) (fs : RA) : RA := fun δ μ => (fa δ μ).bind fun d μ1 => (fs δ μ1).bind fun ds μ2 => .ok (d :: ds) μ2
theorem pda_nil : PDA X W [] rNil := pa_weak pa_nil fun σ H Q ⟨γ, α, F, μ, δ, w, s, q⟩ => q α F H (List.prefix_refl _) (Same.refl F) w [] .nil
theorem pda_cons (ha : PD X W e f) (hr : PDA X W es fs) (hs : starEach (e :: es) X.env = (false, eval e X.env) :: starEach es X.env := by rfl) : PDA X W (e :: es) (rCons f fs) :=
  pa_weak (pa_cons ha hr hs) fun σ H Q ⟨γ, α, F, μ, δ, w, s, q⟩ => tD_go w s q fun d μ1 α1 F1 H1 v p1 e1 w1 s1 hv q1 => tDA_go w1 s1 q1 fun ds μ2 α2 F2 H2 vs p2 e2 w2 s2 hvs q2 =>
    q2 α2 F2 H2 (List.prefix_refl _) (Same.refl F2) w2 _ (.cons (hv.mono p2 e2) hvs)
/-- (a, b, ..) -/
def rTup (fs : RA) : RE := fun δ μ => (fs δ μ).bind fun ds μ1 => if ds.length ≤ 16777216 then .ok (.tup ds) μ1 else .bad
/-- [a, b, ..] that nobody changes | that is changed -/
def rLst (fs : RA) : RE := fun δ μ => (fs δ μ).bind fun ds μ1 => if ds.length ≤ 16777216 then .ok (.lst ds) μ1 else .bad
def rLstM (fs : RA) : RE := fun δ μ => (fs δ μ).bind fun ds μ1 => if ds.length ≤ 16777216 then .ok (.loc μ1.length) (μ1 ++ [.lst ds]) else .bad
theorem pd_tup {n : Nat} (h : PDA X W es fs) : PD X W (.Tuple es n pos) (rTup fs) :=
  pe_weak (pe_tup h) fun σ H Q ⟨γ, α, F, μ, δ, w, s, q⟩ => tDA_go w s q fun ds μ1 α1 F1 H1 vs p1 e1 w1 s1 hv q1 => by
    by_cases hz : ds.length ≤ 16777216
    · rw [if_pos hz] at q1
      refine ⟨by rw [hv.length, sizeLine_eq]; exact hz, fun p hp => ?_⟩
      refine q1 α1 _ _ (List.prefix_refl _) (same_new (w1.sub.free hp)) (w1.lay (o := .tup vs) hp) _ (.tup (.inl (.inl upd_same)) (hv.mono (List.prefix_refl _) (same_new (w1.sub.free hp))))
    · rw [if_neg hz] at q1; exact q1.elim
theorem pd_lst (h : PDA X W es fs) : PD X W (.List es pos) (rLst fs) :=
  pe_weak (pe_lst h) fun σ H Q ⟨γ, α, F, μ, δ, w, s, q⟩ => tDA_go w s q fun ds μ1 α1 F1 H1 vs p1 e1 w1 s1 hv q1 => by
    by_cases hz : ds.length ≤ 16777216
    · rw [if_pos hz] at q1
      refine ⟨by rw [hv.length, sizeLine_eq]; exact hz, fun p hp => ?_⟩
      refine q1 α1 _ _ (List.prefix_refl _) (same_new (w1.sub.free hp)) (w1.lay (o := .lst vs) hp) _ (.lst upd_same (hv.mono (List.prefix_refl _) (same_new (w1.sub.free hp))))
    · rw [if_neg hz] at q1; exact q1.elim
theorem Wd.newAt {K : PySem.W.Frag} {γ : Hp} {α : List Addr} {F H : Hp} {μ : List Ob} (w : Wd K γ α F H μ) (p : Addr) : (α ++ [p])[μ.length]? = some p := by
  rw [← w.len, List.getElem?_concat_length]
theorem Wd.newLst {K : PySem.W.Frag} {γ : Hp} {α : List Addr} {F H : Hp} {μ : List Ob} {p : Addr} {vs : List V} {ds : List D} (w : Wd K γ α F H μ) (hp : H p = none) (h : IsL K α F vs ds) : Wd K γ (α ++ [p]) F (upd H p (.lst vs)) (μ ++ [.lst ds]) :=
  w.new hp ⟨vs, upd_same, h.mono (List.prefix_append _ _) (Same.refl F)⟩
theorem pd_lstM (h : PDA X W es fs) : PD X W (.List es pos) (rLstM fs) :=
  pe_weak (pe_lst h) fun σ H Q ⟨γ, α, F, μ, δ, w, s, q⟩ => tDA_go w s q fun ds μ1 α1 F1 H1 vs p1 e1 w1 s1 hv q1 => by
    by_cases hz : ds.length ≤ 16777216
    · rw [if_pos hz] at q1
      refine ⟨by rw [hv.length, sizeLine_eq]; exact hz, fun p hp => ?_⟩
      exact q1 (α1 ++ [p]) F1 _ (List.prefix_append _ _) (Same.refl F1) (w1.newLst hp hv) _ (.loc (w1.newAt p))
    · rw [if_neg hz] at q1; exact q1.elim
end
end DL

/-! The data layer, c: operations on data. -/
namespace DL
open PySem L2

/-! ### data as the library's plain data -/
mutual
def D.py : D → PyData
  | .non => .none
  | .bl b => .bool b
  | .int i => .int i
  | .str s => .str s
  | .tup xs => .tuple (pyL xs)
  | .lst xs => .list (pyL xs)
  | .frl xs => .list (pyL xs)
  | _ => .dict []
def pyL : List D → List PyData
  | [] => []
  | x :: xs => x.py :: pyL xs
end
/- plain data of at most this depth -/
mutual
def D.okd : Nat → D → Bool
  | _, .non => true
  | _, .bl _ => true
  | _, .int _ => true
  | _, .str s => PyData.strOk s
  | n, .tup xs => match n with
    | 0 => false
    | n + 1 => okdL n xs
  | n, .lst xs => match n with
    | 0 => false
    | n + 1 => okdL n xs
  | n, .frl xs => match n with
    | 0 => false
    | n + 1 => okdL n xs
  | _, _ => false
def okdL : Nat → List D → Bool
  | _, [] => true
  | n, x :: xs => D.okd n x && okdL n xs
end
/- == -/
mutual
def D.eqb : D → D → Bool
  | .non, .non => true
  | .bl a, .bl b => a == b
  | .bl a, .int j => (if a then 1 else 0) == j
  | .int i, .bl b => i == (if b then 1 else 0)
  | .int i, .int j => i == j
  | .str x, .str y => x == y
  | .lst xs, .lst ys => eqbL xs ys
  | .lst xs, .frl ys => eqbL xs ys
  | .frl xs, .lst ys => eqbL xs ys
  | .frl xs, .frl ys => eqbL xs ys
  | .tup xs, .tup ys => eqbL xs ys
  | _, _ => false
def eqbL : List D → List D → Bool
  | [], [] => true
  | x :: xs, y :: ys => D.eqb x y && eqbL xs ys
  | _, _ => false
end
mutual
theorem eqb_eqv : ∀ (n : Nat) (d e : D), d.okd n = true → e.okd n = true → PyData.eqv d.py e.py = d.eqb e
  | n, d, e, hd, he => by
    cases d <;> cases e <;> first
      | (simp only [D.okd] at hd he; exact absurd hd Bool.false_ne_true)
      | (simp only [D.okd] at hd he; exact absurd he Bool.false_ne_true)
      | (simp only [D.py, PyData.eqv, D.eqb]; done)
      | (cases n with
         | zero => (first | (simp only [D.okd] at hd; exact absurd hd Bool.false_ne_true))
         | succ n =>
           simp only [D.okd] at hd he
           simp only [D.py, PyData.eqv, D.eqb]
           exact eqbL_eqv n _ _ hd he)
theorem eqbL_eqv : ∀ (n : Nat) (d e : List D), okdL n d = true → okdL n e = true → PyData.eqvAll (pyL d) (pyL e) = eqbL d e
  | _, [], [], _, _ => rfl
  | n, x :: xs, y :: ys, hd, he => by
    rw [okdL, Bool.and_eq_true] at hd he
    rw [pyL, pyL, PyData.eqvAll, eqbL, eqb_eqv n x y hd.1 he.1, eqbL_eqv n xs ys hd.2 he.2]
  | _, [], _ :: _, _, _ => by simp only [pyL, PyData.eqvAll, eqbL]
  | _, _ :: _, [], _, _ => by simp only [pyL, PyData.eqvAll, eqbL]
end
mutual
theorem okd_shaped : ∀ (n : Nat) (d : D), d.okd n = true → d.py.canLay0 = true ∧ d.py.depth ≤ n
  | _, .non, _ => by simp [D.py, PyData.canLay0, PyData.depth]
  | _, .bl b, _ => by simp [D.py, PyData.canLay0, PyData.depth]
  | _, .int b, _ => by simp [D.py, PyData.canLay0, PyData.depth]
  | _, .str b, h => by
    simp only [D.okd] at h
    simp [D.py, PyData.canLay0, PyData.depth, h]
  | 0, .tup xs, h => by simp only [D.okd] at h; exact absurd h Bool.false_ne_true
  | 0, .lst xs, h => by simp only [D.okd] at h; exact absurd h Bool.false_ne_true
  | 0, .frl xs, h => by simp only [D.okd] at h; exact absurd h Bool.false_ne_true
  | n + 1, .tup xs, h => by
    simp only [D.okd] at h
    have := okdL_shaped n xs h
    rw [D.py, PyData.canLay0, PyData.depth]
    exact ⟨this.1, by omega⟩
  | n + 1, .lst xs, h => by
    simp only [D.okd] at h
    have := okdL_shaped n xs h
    rw [D.py, PyData.canLay0, PyData.depth]
    exact ⟨this.1, by omega⟩
  | n + 1, .frl xs, h => by
    simp only [D.okd] at h
    have := okdL_shaped n xs h
    rw [D.py, PyData.canLay0, PyData.depth]
    exact ⟨this.1, by omega⟩
  | _, .dct _ _, h => by simp only [D.okd] at h; exact absurd h Bool.false_ne_true
  | _, .ins _ _ _, h => by simp only [D.okd] at h; exact absurd h Bool.false_ne_true
  | _, .loc _, h => by simp only [D.okd] at h; exact absurd h Bool.false_ne_true
  | _, .vv _, h => by simp only [D.okd] at h; exact absurd h Bool.false_ne_true
theorem okdL_shaped : ∀ (n : Nat) (d : List D), okdL n d = true → PyData.canLayAll0 (pyL d) = true ∧ PyData.depthAll (pyL d) ≤ n
  | _, [], _ => ⟨by simp only [pyL, PyData.canLayAll0], by simp [pyL, PyData.depthAll]⟩
  | n, x :: xs, h => by
    rw [okdL, Bool.and_eq_true] at h
    have h1 := okd_shaped n x h.1
    have h2 := okdL_shaped n xs h.2
    refine ⟨by rw [pyL, PyData.canLayAll0, h1.1, h2.1]; rfl, ?_⟩
    rw [pyL, PyData.depthAll]
    exact Nat.max_le.mpr ⟨h1.2, h2.2⟩
end
theorem okd_sh {n : Nat} {d : D} (h : d.okd n = true) (hn : n ≤ 64) : SeqAt.shaped d.py = true := by
  obtain ⟨h1, h2⟩ := okd_shaped n d h
  unfold SeqAt.shaped
  rw [h1, decide_eq_true (by omega)]
  rfl
section
variable {K : PySem.W.Frag} {γ : Hp} {α : List Addr} {F H : Hp} {μ : List Ob}
mutual
theorem Is.dp : ∀ (n : Nat) {v : V} {d : D}, Is K α F v d → d.okd n = true → Dp K F v d.py
  | _, _, _, .non, _ => by rw [D.py]; exact .non
  | _, _, _, .bl b, _ => by rw [D.py]; exact .bl b
  | _, _, _, .int i, _ => by rw [D.py]; exact .int i
  | _, _, _, .str s, _ => by rw [D.py]; exact .str s
  | 0, _, _, .tup h l, e => by simp only [D.okd] at e; exact absurd e Bool.false_ne_true
  | n + 1, _, _, .tup h l, e => by rw [D.py]; exact .tup h (IsL.dp n l (by simp only [D.okd] at e; exact e))
  | 0, _, _, .lst h l, e => by simp only [D.okd] at e; exact absurd e Bool.false_ne_true
  | n + 1, _, _, .lst h l, e => by rw [D.py]; exact .lst (.inl (.inl h)) (IsL.dp n l (by simp only [D.okd] at e; exact e))
  | 0, _, _, .frl h l, e => by simp only [D.okd] at e; exact absurd e Bool.false_ne_true
  | n + 1, _, _, .frl h l, e => by rw [D.py]; exact .lst h (IsL.dp n l (by simp only [D.okd] at e; exact e))
  | _, _, _, .dct h q l, e => by simp only [D.okd] at e; exact absurd e Bool.false_ne_true
  | _, _, _, .ins h q l, e => by simp only [D.okd] at e; exact absurd e Bool.false_ne_true
  | _, _, _, .loc h, e => by simp only [D.okd] at e; exact absurd e Bool.false_ne_true
  | _, _, _, .vv x, e => by simp only [D.okd] at e; exact absurd e Bool.false_ne_true
theorem IsL.dp : ∀ (n : Nat) {vs : List V} {ds : List D}, IsL K α F vs ds → okdL n ds = true → DpAll K F vs (pyL ds)
  | _, _, _, .nil, _ => .nil
  | n, _, _, .cons h l, e => by
    rw [okdL, Bool.and_eq_true] at e
    exact .cons (Is.dp n h e.1) (IsL.dp n l e.2)
end
mutual
theorem dp_mono {F H : Hp} (s : Same F H) : ∀ {v : V} {d : PyData}, Dp K F v d → Dp K H v d
  | _, _, .non => .non
  | _, _, .bl b => .bl b
  | _, _, .int b => .int b
  | _, _, .str b => .str b
  | _, _, .lst h l => .lst (s.seq h) (dpAll_mono s l)
  | _, _, .tup h l => .tup (sqt_mono s h) (dpAll_mono s l)
theorem dpAll_mono {F H : Hp} (s : Same F H) : ∀ {vs : List V} {ds : List PyData}, DpAll K F vs ds → DpAll K H vs ds
  | _, _, .nil => .nil
  | _, _, .cons h l => .cons (dp_mono s h) (dpAll_mono s l)
end
/-- what is looked at, as plain data -/
theorem Wd.dp (w : Wd K γ α F H μ) {n : Nat} {v : V} {d : D} (h : Is K α F v d) (e : (d.view μ).okd n = true) : Dp K H v (d.view μ).py := by
  have q := w.view h
  cases hv : d.view μ with
  | lst ds =>
    rw [hv] at q e
    obtain ⟨a, vs, rfl, h1, h2⟩ := q
    cases n with
    | zero => simp only [D.okd] at e; exact absurd e Bool.false_ne_true
    | succ n => rw [D.py]; exact .lst (.inl (.inl h1)) (dpAll_mono w.sub (h2.dp n (by simp only [D.okd] at e; exact e)))
  | frl ds =>
    rw [hv] at q e
    obtain ⟨a, vs, rfl, h1, h2⟩ := q
    cases n with
    | zero => simp only [D.okd] at e; exact absurd e Bool.false_ne_true
    | succ n => rw [D.py]; exact .lst h1 (dpAll_mono w.sub (h2.dp n (by simp only [D.okd] at e; exact e)))
  | tup ds =>
    rw [hv] at q e
    obtain ⟨a, vs, rfl, h1, h2⟩ := q
    cases n with
    | zero => simp only [D.okd] at e; exact absurd e Bool.false_ne_true
    | succ n => rw [D.py]; exact .tup h1 (dpAll_mono w.sub (h2.dp n (by simp only [D.okd] at e; exact e)))
  | non => rw [hv] at q e; exact dp_mono w.sub (Is.dp n q e)
  | bl => rw [hv] at q e; exact dp_mono w.sub (Is.dp n q e)
  | int => rw [hv] at q e; exact dp_mono w.sub (Is.dp n q e)
  | str => rw [hv] at q e; exact dp_mono w.sub (Is.dp n q e)
  | _ => rw [hv] at e; simp only [D.okd] at e; exact absurd e Bool.false_ne_true
theorem view_int {d : D} {i : Int} (h : d.view μ = .int i) : d = .int i := by
  cases d with
  | loc k => rw [view_loc] at h; split at h <;> cases h
  | _ => first | exact h | cases h
theorem view_str {d : D} {i : Str} (h : d.view μ = .str i) : d = .str i := by
  cases d with
  | loc k => rw [view_loc] at h; split at h <;> cases h
  | _ => first | exact h | cases h
theorem view_tup {d : D} {i : List D} (h : d.view μ = .tup i) : d = .tup i := by
  cases d with
  | loc k => rw [view_loc] at h; split at h <;> cases h
  | _ => first | exact h | cases h

/-! ### == -/
def eqD (d e : D) (μ : List Ob) : R D := if (d.view μ).okd 60 && (e.view μ).okd 60 then .ok (.bl ((d.view μ).eqb (e.view μ))) μ else .bad
def neD (d e : D) (μ : List Ob) : R D := if (d.view μ).okd 60 && (e.view μ).okd 60 then .ok (.bl (!(d.view μ).eqb (e.view μ))) μ else .bad
theorem op2_eq : Op2 K (rEqD K) eqD := fun γ α F H μ x y d e Q E w hx hy q => by
  unfold eqD at q
  by_cases h : ((d.view μ).okd 60 && (e.view μ).okd 60) = true
  · rw [if_pos h] at q
    rw [Bool.and_eq_true] at h
    refine ⟨_, _, w.dp hx h.1, w.dp hy h.2, okd_sh h.1 (by decide), okd_sh h.2 (by decide), ?_⟩
    rw [eqb_eqv 60 _ _ h.1 h.2]
    exact q α F H (List.prefix_refl _) (Same.refl F) w _ (.bl _)
  · rw [if_neg h] at q; exact q.elim
theorem op2_ne : Op2 K (rNeD K) neD := fun γ α F H μ x y d e Q E w hx hy q => by
  unfold neD at q
  by_cases h : ((d.view μ).okd 60 && (e.view μ).okd 60) = true
  · rw [if_pos h] at q
    rw [Bool.and_eq_true] at h
    refine ⟨_, _, w.dp hx h.1, w.dp hy h.2, okd_sh h.1 (by decide), okd_sh h.2 (by decide), ?_⟩
    rw [eqb_eqv 60 _ _ h.1 h.2]
    exact q α F H (List.prefix_refl _) (Same.refl F) w _ (.bl _)
  · rw [if_neg h] at q; exact q.elim

/-! ### is None -/
def isN (d e : D) (μ : List Ob) : R D := match e with
  | .non => match d with
    | .vv _ => .bad
    | .non => .ok (.bl true) μ
    | _ => .ok (.bl false) μ
  | _ => .bad
def isNotN (d e : D) (μ : List Ob) : R D := match e with
  | .non => match d with
    | .vv _ => .bad
    | .non => .ok (.bl false) μ
    | _ => .ok (.bl true) μ
  | _ => .bad
theorem op2_isN : Op2 K (fun x y H Q => y = .non ∧ Q (.bl (decide (x = .non))) H) isN := fun γ α F H μ x y d e Q E w hx hy q => by
  cases e <;> try exact q.elim
  cases hy
  refine ⟨rfl, ?_⟩
  cases hx <;> first | exact q α F H (List.prefix_refl _) (Same.refl F) w _ (.bl _) | exact q.elim
theorem op2_notN : Op2 K (fun x y H Q => y = .non ∧ Q (.bl (!decide (x = .non))) H) isNotN := fun γ α F H μ x y d e Q E w hx hy q => by
  cases e <;> try exact q.elim
  cases hy
  refine ⟨rfl, ?_⟩
  cases hx <;> first | exact q α F H (List.prefix_refl _) (Same.refl F) w _ (.bl _) | exact q.elim

/-! ### ints -/
def intB (g : Int → Int → Bool) (d e : D) (μ : List Ob) : R D := match d, e with
  | .int i, .int j => .ok (.bl (g i j)) μ
  | _, _ => .bad
theorem op2_intB {g : Int → Int → Bool} : Op2 K (rI0 fun i j => .bl (g i j)) (intB g) := fun γ α F H μ x y d e Q E w hx hy q => by
  cases d <;> try exact q.elim
  cases e <;> try exact q.elim
  cases hx; cases hy
  exact ⟨_, _, rfl, rfl, q α F H (List.prefix_refl _) (Same.refl F) w _ (.bl _)⟩
abbrev ltD := intB fun i j => decide (i < j)
abbrev leD := intB fun i j => decide (i ≤ j)
abbrev gtD := intB fun i j => decide (j < i)
abbrev geD := intB fun i j => decide (j ≤ i)
theorem intB_noexc {g : Int → Int → Bool} (d e : D) (μ : List Ob) (x : Exn) (μ' : List Ob) : intB g d e μ ≠ .exc x μ' := by
  cases d <;> cases e <;> exact fun h => nomatch h
def intI (C : Int → Int → Bool) (g : Int → Int → Int) (d e : D) (μ : List Ob) : R D := match d, e with
  | .int i, .int j => if C i j then .ok (.int (g i j)) μ else .bad
  | _, _ => .bad
theorem op2_intI {C : Int → Int → Bool} {P : Int → Int → Prop} {g : Int → Int → Int} (h : ∀ i j, C i j = true → P i j) : Op2 K (rI P fun i j => .int (g i j)) (intI C g) := fun γ α F H μ x y d e Q E w hx hy q => by
  cases d <;> try exact q.elim
  cases e <;> try exact q.elim
  rename_i i j
  cases hx; cases hy
  unfold intI at q
  dsimp only at q
  by_cases hc : C i j = true
  · rw [if_pos hc] at q
    exact ⟨i, j, rfl, rfl, h i j hc, q α F H (List.prefix_refl _) (Same.refl F) w _ (.int _)⟩
  · rw [if_neg hc] at q; exact q.elim
def intI0 (g : Int → Int → Int) (d e : D) (μ : List Ob) : R D := match d, e with
  | .int i, .int j => .ok (.int (g i j)) μ
  | _, _ => .bad
theorem op2_intI0 {g : Int → Int → Int} : Op2 K (rI0 fun i j => .int (g i j)) (intI0 g) := fun γ α F H μ x y d e Q E w hx hy q => by
  cases d <;> try exact q.elim
  cases e <;> try exact q.elim
  cases hx; cases hy
  exact ⟨_, _, rfl, rfl, q α F H (List.prefix_refl _) (Same.refl F) w _ (.int _)⟩
abbrev subD := intI0 fun i j => i - j
def mulC (i j : Int) : Bool := (decide (-(2 ^ 64) < i) && decide (i < 2 ^ 64)) || (decide (-(2 ^ 64) < j) && decide (j < 2 ^ 64))
abbrev mulD := intI mulC fun i j => i * j
theorem op2_mul : Op2 K (rI CMul fun i j => .int (i * j)) mulD := op2_intI fun i j h => by
  unfold mulC at h
  rw [Bool.or_eq_true, Bool.and_eq_true, Bool.and_eq_true, decide_eq_true_eq, decide_eq_true_eq, decide_eq_true_eq, decide_eq_true_eq] at h
  exact h
abbrev divD := intI (fun _ j => decide (0 < j) && decide (j < 1073741824)) fun i j => i / j
theorem op2_div : Op2 K (rI CDiv fun i j => .int (i / j)) divD := op2_intI fun i j h => by
  rw [Bool.and_eq_true, decide_eq_true_eq, decide_eq_true_eq] at h
  exact h
abbrev modD := intI (fun _ j => decide (0 < j)) fun i j => i % j
theorem op2_mod : Op2 K (rI (fun _ j => 0 < j) fun i j => .int (i % j)) modD := op2_intI fun i j h => of_decide_eq_true h
abbrev powD := intI (fun i j => decide (0 ≤ j) && (decide (j ≤ 1000000) && decide (i.natAbs < 2 ^ 64))) fun i j => i ^ j.toNat
theorem op2_pow : Op2 K (rI CPow fun i j => .int (i ^ j.toNat)) powD := op2_intI fun i j h => by
  rw [Bool.and_eq_true, Bool.and_eq_true, decide_eq_true_eq, decide_eq_true_eq, decide_eq_true_eq] at h
  exact h

/-! ### + -/
def addD (d e : D) (μ : List Ob) : R D := match d.view μ, e.view μ with
  | .int i, .int j => .ok (.int (i + j)) μ
  | .str x, .str y => if x.length + y.length ≤ 16777216 then .ok (.str (x ++ y)) μ else .bad
  | .lst xs, .lst ys => if xs.length + ys.length ≤ 16777216 then .ok (.lst (xs ++ ys)) μ else .bad
  | .tup xs, .tup ys => if xs.length + ys.length ≤ 16777216 then .ok (.tup (xs ++ ys)) μ else .bad
  | _, _ => .bad
def rAddA (K : PySem.W.Frag) : R2 := fun x y H Q => (rI0 fun i j => .int (i + j)) x y H Q ∨ (∃ i j, x = .str i ∧ y = .str j ∧ i.length + j.length ≤ sizeLine ∧ Q (.str (i ++ j)) H) ∨ rCat x y H Q ∨ rCatA K x y H Q
theorem op_addA {X : Cx} : OpR X (binaryOp .Add) (rAddA X.K) := OpR.or op_add (OpR.or op_add_str (OpR.or op_cat op_catA))
theorem op2_add : Op2 K (rAddA K) addD := fun γ α F H μ x y d e Q E w hx hy q => by
  unfold addD at q
  have vx := w.view hx
  have vy := w.view hy
  split at q
  · rename_i i j hd he
    rw [view_int hd] at hx
    rw [view_int he] at hy
    cases hx; cases hy
    exact .inl ⟨i, j, rfl, rfl, q α F H (List.prefix_refl _) (Same.refl F) w _ (.int _)⟩
  · rename_i i j hd he
    rw [view_str hd] at hx
    rw [view_str he] at hy
    cases hx; cases hy
    by_cases hz : i.length + j.length ≤ 16777216
    · rw [if_pos hz] at q
      exact .inr (.inl ⟨i, j, rfl, rfl, by rw [sizeLine_eq]; exact hz, q α F H (List.prefix_refl _) (Same.refl F) w _ (.str _)⟩)
    · rw [if_neg hz] at q; exact q.elim
  · rename_i xs ys hd he
    rw [hd] at vx
    rw [he] at vy
    obtain ⟨a, vs, rfl, h1, h2⟩ := vx
    obtain ⟨b, ws, rfl, h3, h4⟩ := vy
    by_cases hz : xs.length + ys.length ≤ 16777216
    · rw [if_pos hz] at q
      refine .inr (.inr (.inl ⟨a, b, vs, ws, rfl, rfl, h1, h3, by rw [sizeLine_eq, h2.length, h4.length]; exact hz, fun p hp => ?_⟩))
      have sn := same_new (o := .lst (vs ++ ws)) (w.sub.free hp)
      exact q α _ _ (List.prefix_refl _) sn (w.lay hp) _ (.lst upd_same ((h2.append h4).mono (List.prefix_refl _) sn))
    · rw [if_neg hz] at q; exact q.elim
  · rename_i xs ys hd he
    rw [view_tup hd] at hx
    rw [view_tup he] at hy
    cases hx with
    | tup ha la =>
    cases hy with
    | tup hb lb =>
    rename_i a vs b ws
    by_cases hz : xs.length + ys.length ≤ 16777216
    · rw [if_pos hz] at q
      refine .inr (.inr (.inr ⟨a, b, vs, ws, rfl, rfl, sqt_mono w.sub ha, sqt_mono w.sub hb, by rw [sizeLine_eq, la.length, lb.length]; exact hz, fun e0 => ?_, fun n0 e0 => ?_, fun n0 n1 p hp => ?_⟩))
      · subst e0
        cases la
        exact q α F H (List.prefix_refl _) (Same.refl F) w _ (.tup hb lb)
      · subst e0
        cases lb
        rw [List.append_nil] at q
        exact q α F H (List.prefix_refl _) (Same.refl F) w _ (.tup ha la)
      · have sn := same_new (o := .tup (vs ++ ws)) (w.sub.free hp)
        exact q α _ _ (List.prefix_refl _) sn (w.lay hp) _ (.tup (.inl (.inl upd_same)) ((la.append lb).mono (List.prefix_refl _) sn))
    · rw [if_neg hz] at q; exact q.elim
  · exact q.elim
end
end DL

/-! The data layer, d: containers: in, subscripts, slices, len, list, tuple, isinstance, calls. -/
namespace DL
open PySem PySem.Spec PyProof.Rows L2

section
variable {X : Cx} {pins : List (Addr × Obj)} {σ : L2.St} {H : Hp} {s : Shared}
/-- a dict that is read, in the heap -/
theorem rdd_of {a : Addr} {kvs : List (Key × V)} (I : Inv X pins σ H s) (h : RdD H a kvs) : kvs.length ≤ sizeLine ∧ (a == sysModules) = false ∧ ∃ vs, KV kvs vs ∧ s.heap.DictOf (mixKind X.prog X.w) a vs := dk_rd I.hok h
def rInK (neg : Bool) : R2 := fun x y H Q => ∃ a kvs k, y = .ref a ∧ x = kV k ∧ RdD H a kvs ∧ Q (.bl (if neg then !(valV kvs k).isSome else (valV kvs k).isSome)) H
theorem op_inK : OpR X (compareOp .In) (rInK false) := by
  intro pins s σ H x y v u Q I rx ry q
  obtain ⟨a, kvs, k, rfl, rfl, hd, q⟩ := q
  cases ry
  obtain ⟨_, lo, vs, kk, dd⟩ := rdd_of I hd
  refine wpAny_in_of (kV_is rx) lo dd.mapOf ?_
  rw [← (kk.val k).isSome_eq]
  exact ⟨.bl _, H, I.tok _, rfl, q⟩
theorem op_notInK : OpR X (compareOp .NotIn) (rInK true) := by
  intro pins s σ H x y v u Q I rx ry q
  obtain ⟨a, kvs, k, rfl, rfl, hd, q⟩ := q
  cases ry
  obtain ⟨_, lo, vs, kk, dd⟩ := rdd_of I hd
  refine wpAny_notIn_of (kV_is rx) lo dd.mapOf ?_
  rw [← (kk.val k).isSome_eq]
  exact ⟨.bl _, H, I.tok _, rfl, q⟩
def rIxK : R2 := fun x y H Q => ∃ a kvs k v, x = .ref a ∧ y = kV k ∧ RdD H a kvs ∧ valV kvs k = some v ∧ Q v H
theorem ix_K : IxR X rIxK := by
  intro value slice pins s σ H x y v u Q I rx ry q hs
  obtain ⟨a, kvs, k, z, rfl, rfl, hd, hv, q⟩ := q
  cases rx
  obtain ⟨_, lo, vs, kk, dd⟩ := rdd_of I hd
  obtain ⟨zv, hz, rz⟩ := RelO.some_of (v := z) (o := valueAt vs k) (by rw [← hv]; exact kk.val k)
  exact tail_any dd.typeIs slot_dict_getitem.lookup (wpAny_getItem_of (kV_is ry) dd.mapOf hz ⟨z, H, I.tok _, rz, q⟩) hs
/-- x in t, t a tuple of plain data -/
def rInU (K : PySem.W.Frag) (neg : Bool) : R2 := fun x y H Q => ∃ d ds, Dp K H x d ∧ Dp K H y (.tuple ds) ∧ SeqAt.shaped d = true ∧ SeqAt.shaped (.tuple ds) = true ∧ Q (.bl (if neg then !ds.any fun z => PyData.eqv z d else ds.any fun z => PyData.eqv z d)) H
theorem op_inU (hu : X.A.units + 65 < cLine) : OpR X (compareOp .In) (rInU X.K false) := by
  intro pins s σ H x y v u Q I rx ry q
  obtain ⟨d, ds, h1, h2, s1, s2, q⟩ := q
  obtain ⟨as, r1⟩ := Dp.reads I d x v h1 rx
  obtain ⟨bs, r2⟩ := Dp.reads I (.tuple ds) y u h2 ry
  exact SeqAt.in_tuple_reads r2 r1 (SeqAt.canLay_of_shaped s2) (SeqAt.canLay_of_shaped s1) (room_in_shaped s1 hu) ⟨.bl _, H, I, rfl, q⟩
theorem op_notInU (hu : X.A.units + 65 < cLine) : OpR X (compareOp .NotIn) (rInU X.K true) := by
  intro pins s σ H x y v u Q I rx ry q
  obtain ⟨d, ds, h1, h2, s1, s2, q⟩ := q
  obtain ⟨as, r1⟩ := Dp.reads I d x v h1 rx
  obtain ⟨bs, r2⟩ := Dp.reads I (.tuple ds) y u h2 ry
  exact SeqAt.notIn_tuple_reads r2 r1 (SeqAt.canLay_of_shaped s2) (SeqAt.canLay_of_shaped s1) (room_in_shaped s1 hu) ⟨.bl _, H, I, rfl, q⟩
/-- len, of a dict that is read -/
theorem call_lenK : CallR X (.builtin "len") (fun xs H Q => ∃ a kvs, xs = [V.ref a] ∧ RdD H a kvs ∧ Q (.int kvs.length) H) := by
  intro pins s σ H xs us Q I r q
  obtain ⟨a, kvs, rfl, hd, q⟩ := q
  obtain ⟨u, rfl, ru⟩ := vals1 r
  cases ru
  obtain ⟨z, lo, vs, kk, dd⟩ := rdd_of I hd
  have hl := kk.length
  have h0 := sizeLine_eq
  refine call_len_dict lo dd (by omega) ?_
  exact ⟨.int kvs.length, H, I.tok _, ⟨_, by rw [hl]⟩, q⟩
/-- list of a dict that is read -/
theorem call_listK (hc : X.calm = true) : CallR X (.type "list") (fun xs H Q => ∃ (a : Addr) (kvs : List (Key × V)), xs = [.ref a] ∧ RdD H a kvs ∧ ∀ p, H p = none → Q (.ref p) (upd H p (.lst (kvs.map fun kv => kV kv.1)))) := by
  intro pins s σ H xs us Q I r q
  obtain ⟨a, kvs, rfl, hd, q⟩ := q
  obtain ⟨u, rfl, ru⟩ := vals1 r
  cases ru
  obtain ⟨z, lo, vs, kk, dd⟩ := rdd_of I hd
  obtain ⟨ep, hat⟩ := dd.dictAt
  have ek : (kvs.map fun kv => kV kv.1) = vs.map fun p => kV p.1 := by
    have e := congrArg (List.map kV) kk.keys
    rw [List.map_map, List.map_map] at e
    exact e
  refine PySem.W.kdl_call (PySem.W.kdl_dict (knd := mixKind X.prog X.w) (kvs := vs) (ep := ep) lo) (I.ok.hd hc) hat (by rw [← kk.length]; exact z) fun h' tk acc c' hk hD hacc => ?_
  have hv : Vals (vs.map fun p => kV p.1) acc.toList := keys_at (by rw [Array.length_toList]; exact hacc.1) fun j v e => hacc.2 j v (by rw [← Array.getElem?_toList]; exact e)
  have hnew : ObjOk X.prog X.w (upd H s.heap.objs.size (.lst (kvs.map fun kv => kV kv.1))) h' s.heap.objs.size (.lst (kvs.map fun kv => kV kv.1)) :=
    ⟨by rw [List.length_map]; exact z, acc.toList, c', by rw [ek]; exact hv, by rw [Array.toArray_toList]; exact hD⟩
  exact ⟨.ref s.heap.objs.size, _, I.laid (t' := tk) hk (Nat.le_refl _) hnew, rfl, q _ (I.hok.fresh (Nat.le_refl _))⟩
/-- dict(d) of a dict that is read -/
theorem call_dictK : CallR X (.type "dict") (fun xs H Q => ∃ (a : Addr) (kvs : List (Key × V)), xs = [.ref a] ∧ RdD H a kvs ∧ ∀ p, H p = none → Q (.ref p) (upd H p (.dK kvs))) := by
  intro pins s σ H xs us Q I r q
  obtain ⟨a, kvs, rfl, hd, q⟩ := q
  obtain ⟨u, rfl, ru⟩ := vals1 r
  cases ru
  obtain ⟨z, lo, vs, kk, dd⟩ := rdd_of I hd
  refine kt_call_dict lo dd (by rw [← kk.length]; exact z) fun h' d' hs => ?_
  have hm : (s.heap.objs.size == sysModules) = false := beq_eq_false_iff_ne.mpr (Nat.ne_of_gt I.big)
  have hnew : ObjOk X.prog X.w (upd H s.heap.objs.size (.dK kvs)) h' s.heap.objs.size (.dK kvs) := ⟨z, hm, vs, kk, d'⟩
  exact ⟨.ref s.heap.objs.size, _, I.laid (t' := s.toks) (fun b o e => (hs.2 b (Nat.ne_of_lt (Heap.lt_size e))).trans (Heap.get?_push_of_some _ e)) (Nat.le_refl _) hnew, rfl, q _ (I.hok.fresh (Nat.le_refl _))⟩
/-- a dict stands still from now on -/
def tFrz (t : TE) : TE := fun σ H Q => t σ H fun v H1 => ∃ a kvs, v = .ref a ∧ H1 a = some (.dK kvs) ∧ ∀ o, Q v (upd H1 a (.frz o (.dK kvs)))
theorem pe_frz {e : Expr} {t : TE} (h : PE X e t) : PE X e (tFrz t) := by
  refine ⟨fun pins s σ H Q I q => thn (h.run pins s σ H _ I q) fun u s1 ⟨v, H1, I1, r1, a, kvs, e, ha, q1⟩ => ?_⟩
  subst e
  have hok := I1.hok a _ ha
  have hd : ObjOk X.prog X.w H1 s1.heap a (.dK kvs) := hok
  obtain ⟨z, lo, vs, kk, o, es, ep, ho, hr⟩ := hd
  have hnew : ObjOk X.prog X.w (upd H1 a (.frz o (.dK kvs))) s1.heap a (.frz o (.dK kvs)) := ⟨ho, z, lo, vs, kk, o, es, ep, ho, hr⟩
  exact ⟨.ref a, _, I1.write (t' := s1.toks) (x := a) (e := a) (o := .frz o (.dK kvs)) (by rw [ha]; exact True.intro) (.inl rfl) (fun _ _ _ q => q) ⟨o, ho⟩ hnew, r1, q1 o⟩
end

/-! ### keys -/
def D.key : D → Option Key
  | .int i => some (.inl i)
  | .str s => some (.inr s)
  | _ => none
def lookD {κ : Type} [DecidableEq κ] : List κ → List D → κ → Option D
  | k0 :: ks, x :: xs, k => if k0 = k then some x else lookD ks xs k
  | _, _, _ => none
section
variable {K : PySem.W.Frag} {γ : Hp} {α : List Addr} {F H : Hp} {μ : List Ob} {W : WX}
theorem key_kV {v : V} {d : D} {k : Key} (h : Is K α F v d) (e : d.key = some k) : v = kV k := by
  cases d <;> (simp only [D.key] at e; try cases e)
  · cases h; rfl
  · cases h; rfl
theorem look_val {κ : Type} [DecidableEq κ] (k : κ) : ∀ {kvs : List (κ × V)} {xs : List D}, IsL K α F (kvs.map (·.2)) xs →
    (∀ d, lookD (kvs.map (·.1)) xs k = some d → ∃ v, valV kvs k = some v ∧ Is K α F v d) ∧ (lookD (kvs.map (·.1)) xs k = none → valV kvs k = none)
  | [], _, .nil => ⟨fun d h => by simp [lookD] at h, fun _ => valV_nil⟩
  | (k0, v0) :: r, _, .cons (d := d0) (ds := ds) h l => by
    have ih := look_val k l
    show (∀ d, (if k0 = k then some d0 else lookD (r.map (·.1)) ds k) = some d → _) ∧ ((if k0 = k then some d0 else lookD (r.map (·.1)) ds k) = none → _)
    by_cases e : k0 = k
    · rw [if_pos e]
      exact ⟨fun d q => by cases q; exact ⟨v0, valV_pos (p := (k0, v0)) e, h⟩, fun q => nomatch q⟩
    · rw [if_neg e, valV_neg (p := (k0, v0)) e]
      exact ih
theorem look_some {κ : Type} [DecidableEq κ] {k : κ} {kvs : List (κ × V)} {xs : List D} (l : IsL K α F (kvs.map (·.2)) xs) : (valV kvs k).isSome = (lookD (kvs.map (·.1)) xs k).isSome := by
  cases h : lookD (kvs.map (·.1)) xs k with
  | some d =>
    obtain ⟨v, hv, _⟩ := (look_val k l).1 d h
    rw [hv]; rfl
  | none => rw [(look_val k l).2 h]; rfl

/-! ### in, not in -/
def inD (neg : Bool) (d e : D) (μ : List Ob) : R D := match e.view μ with
  | .lst xs => if d.okd 60 && okdL 60 xs then .ok (.bl (if neg then !xs.any fun z => z.eqb d else xs.any fun z => z.eqb d)) μ else .bad
  | .tup xs => if d.okd 60 && okdL 60 xs then .ok (.bl (if neg then !xs.any fun z => z.eqb d else xs.any fun z => z.eqb d)) μ else .bad
  | .dct ks xs => match d.key with
    | some k => .ok (.bl (if neg then !(lookD ks xs k).isSome else (lookD ks xs k).isSome)) μ
    | none => .bad
  | .str z => match d with
    | .str ⟨#[c]⟩ => .ok (.bl (if neg then !decide (c ∈ z.cps.toList) else decide (c ∈ z.cps.toList))) μ
    | _ => .bad
  | _ => .bad
theorem any_eqv {d : D} (hd : d.okd 60 = true) : ∀ {xs : List D}, okdL 60 xs = true → ((pyL xs).any fun z => PyData.eqv z d.py) = xs.any fun z => z.eqb d
  | [], _ => rfl
  | x :: xs, h => by
    rw [okdL, Bool.and_eq_true] at h
    rw [pyL, List.any_cons, List.any_cons, any_eqv hd h.2]
    rw [eqb_eqv 60 x d h.1 hd]
def rInA (K : PySem.W.Frag) (neg : Bool) : R2 := fun x y H Q =>
  (if neg then rNotInD K x y H Q else rInD K x y H Q) ∨ rInU K neg x y H Q ∨ rInK neg x y H Q ∨ (∃ (c : Nat) (z : Str), x = .str ⟨#[c]⟩ ∧ y = .str z ∧ Q (.bl (if neg then !decide (c ∈ z.cps.toList) else decide (c ∈ z.cps.toList))) H)
theorem op_inA {X : Cx} (hu : X.A.units + 65 < cLine) : OpR X (compareOp .In) (rInA X.K false) := by
  refine OpR.or ?_ (OpR.or (op_inU hu) (OpR.or op_inK op_in_sign))
  exact op_inD hu
theorem op_notInA {X : Cx} (hu : X.A.units + 65 < cLine) : OpR X (compareOp .NotIn) (rInA X.K true) := by
  refine OpR.or ?_ (OpR.or (op_notInU hu) (OpR.or op_notInK op_notIn_sign))
  exact op_notInD hu
theorem view_str' {d : D} {z : Str} (h : d.view μ = .str z) : d = .str z := view_str h
theorem op2_in (neg : Bool) : Op2 K (rInA K neg) (inD neg) := fun γ α F H μ x y d e Q E w hx hy q => by
  unfold inD at q
  have vy := w.view hy
  have go : ∀ k : Bool, Fin K γ α F (R.ok (D.bl k) μ) (okD K Q) E → Q (.bl k) H := fun k q => q α F H (List.prefix_refl _) (Same.refl F) w _ (.bl _)
  split at q
  · rename_i xs he
    rw [he] at vy
    obtain ⟨a, vs, rfl, h1, h2⟩ := vy
    by_cases hz : (d.okd 60 && okdL 60 xs) = true
    · rw [if_pos hz] at q
      rw [Bool.and_eq_true] at hz
      have dx : Dp K H x d.py := dp_mono w.sub (Is.dp 60 hx hz.1)
      have dl : Dp K H (.ref a) (.list (pyL xs)) := .lst (.inl (.inl h1)) (dpAll_mono w.sub (h2.dp 60 hz.2))
      have sl : SeqAt.shaped (.list (pyL xs)) = true := by
        have := okd_sh (d := .lst xs) (n := 61) (by simp only [D.okd]; exact hz.2) (by decide)
        simpa only [D.py] using this
      have qq := go _ q
      left
      cases neg with
      | true => exact ⟨_, _, dx, dl, okd_sh hz.1 (by decide), sl, by rw [any_eqv hz.1 hz.2]; exact qq⟩
      | false => exact ⟨_, _, dx, dl, okd_sh hz.1 (by decide), sl, by rw [any_eqv hz.1 hz.2]; exact qq⟩
    · rw [if_neg hz] at q; exact q.elim
  · rename_i xs he
    rw [he] at vy
    obtain ⟨a, vs, rfl, h1, h2⟩ := vy
    by_cases hz : (d.okd 60 && okdL 60 xs) = true
    · rw [if_pos hz] at q
      rw [Bool.and_eq_true] at hz
      have dx : Dp K H x d.py := dp_mono w.sub (Is.dp 60 hx hz.1)
      have dl : Dp K H (.ref a) (.tuple (pyL xs)) := .tup h1 (dpAll_mono w.sub (h2.dp 60 hz.2))
      have sl : SeqAt.shaped (.tuple (pyL xs)) = true := by
        have := okd_sh (d := .tup xs) (n := 61) (by simp only [D.okd]; exact hz.2) (by decide)
        simpa only [D.py] using this
      have qq := go _ q
      right; left
      exact ⟨_, _, dx, dl, okd_sh hz.1 (by decide), sl, by rw [any_eqv hz.1 hz.2]; exact qq⟩
    · rw [if_neg hz] at q; exact q.elim
  · rename_i ks xs he
    rw [he] at vy
    obtain ⟨a, kvs, rfl, h1, h2, h3⟩ := vy
    cases hk : d.key with
    | none => rw [hk] at q; exact q.elim
    | some k =>
      rw [hk] at q
      have qq := go _ q
      right; right; left
      refine ⟨a, kvs, k, rfl, key_kV hx hk, h1, ?_⟩
      rw [look_some h3, h2]
      exact qq
  · rename_i z he
    cases d with
    | str cs =>
      obtain ⟨⟨cl⟩⟩ := cs
      match cl, hx, q with
      | [], hx, q => exact q.elim
      | [c], hx, q =>
        have qq := go _ q
        cases hx
        rw [view_str he] at hy
        cases hy
        right; right; right
        exact ⟨c, z, rfl, rfl, qq⟩
      | _ :: _ :: _, hx, q => exact q.elim
    | _ => exact q.elim
  · exact q.elim
theorem pd_in {X : Cx} {a b : Expr} {fa fb : RE} {pos : Pos} (hu : X.A.units + 65 < cLine) (ha : PD X W a fa) (hb : PD X W b fb) (hm : behindInMarks .In b = false := by rfl) : PD X W (.Compare a [.In] [b] pos) (rBin (inD false) fa fb) :=
  pd_cmp (op_inA hu) (op2_in false) hm ha hb
theorem pd_notIn {X : Cx} {a b : Expr} {fa fb : RE} {pos : Pos} (hu : X.A.units + 65 < cLine) (ha : PD X W a fa) (hb : PD X W b fb) (hm : behindInMarks .NotIn b = false := by rfl) : PD X W (.Compare a [.NotIn] [b] pos) (rBin (inD true) fa fb) :=
  pd_cmp (op_notInA hu) (op2_in true) hm ha hb
theorem pdt_in {X : Cx} {a b : Expr} {fa fb : RE} {pos : Pos} (hu : X.A.units + 65 < cLine) (ha : PD X W a fa) (hb : PD X W b fb) (hm : behindInMarks .In b = false := by rfl) : PDT X W (.Compare a [.In] [b] pos) (rT (rBin (inD false) fa fb)) :=
  pdt_cmp (op_inA hu) (op2_in false) hm ha hb
theorem pdt_notIn {X : Cx} {a b : Expr} {fa fb : RE} {pos : Pos} (hu : X.A.units + 65 < cLine) (ha : PD X W a fa) (hb : PD X W b fb) (hm : behindInMarks .NotIn b = false := by rfl) : PDT X W (.Compare a [.NotIn] [b] pos) (rT (rBin (inD true) fa fb)) :=
  pdt_cmp (op_notInA hu) (op2_in true) hm ha hb

/-! ### o[i] -/
def getD (d e : D) (μ : List Ob) : R D := match d.view μ with
  | .lst xs => match e with
    | .int i => match atI xs i with
      | some x => .ok x μ
      | none => .bad
    | _ => .bad
  | .tup xs => match e with
    | .int i => match atI xs i with
      | some x => .ok x μ
      | none => .bad
    | _ => .bad
  | .dct ks xs => match e.key with
    | some k => match lookD ks xs k with
      | some x => .ok x μ
      | none => .bad
    | none => .bad
  | _ => .bad
def rIxA (K : PySem.W.Frag) : R2 := fun x y H Q => rIxL K x y H Q ∨ rIxT K x y H Q ∨ rIxK x y H Q
theorem ix_A {X : Cx} : IxR X (rIxA X.K) := IxR.or ix_list (IxR.or ix_tup ix_K)
theorem atI_is {vs : List V} {xs : List D} {i : Int} {x : D} (l : IsL K α F vs xs) (h : atI xs i = some x) : ∃ v, atI vs i = some v ∧ Is K α F v x := by
  unfold atI at h ⊢
  rw [l.length]
  cases hj : ixN xs.length i with
  | none => rw [hj] at h; cases h
  | some j =>
    rw [hj] at h
    exact l.get h
theorem op2_get : Op2 K (rIxA K) getD := fun γ α F H μ x y d e Q E w hx hy q => by
  unfold getD at q
  have vx := w.view hx
  split at q
  · rename_i xs hd
    rw [hd] at vx
    obtain ⟨a, vs, rfl, h1, h2⟩ := vx
    cases e <;> try exact q.elim
    rename_i i
    cases hy
    dsimp only at q
    cases ha : atI xs i with
    | none => rw [ha] at q; exact q.elim
    | some z =>
      rw [ha] at q
      obtain ⟨v, h3, h4⟩ := atI_is h2 ha
      exact .inl ⟨a, vs, i, v, rfl, rfl, .inl (.inl h1), h3, q α F H (List.prefix_refl _) (Same.refl F) w _ h4⟩
  · rename_i xs hd
    rw [hd] at vx
    obtain ⟨a, vs, rfl, h1, h2⟩ := vx
    cases e <;> try exact q.elim
    rename_i i
    cases hy
    dsimp only at q
    cases ha : atI xs i with
    | none => rw [ha] at q; exact q.elim
    | some z =>
      rw [ha] at q
      obtain ⟨v, h3, h4⟩ := atI_is h2 ha
      exact .inr (.inl ⟨a, vs, i, v, rfl, rfl, h1, h3, q α F H (List.prefix_refl _) (Same.refl F) w _ h4⟩)
  · rename_i ks xs hd
    rw [hd] at vx
    obtain ⟨a, kvs, rfl, h1, h2, h3⟩ := vx
    cases hk : e.key with
    | none => rw [hk] at q; exact q.elim
    | some k =>
      rw [hk] at q
      dsimp only at q
      cases hl : lookD ks xs k with
      | none => rw [hl] at q; exact q.elim
      | some z =>
        rw [hl] at q
        subst h2
        obtain ⟨v, h4, h5⟩ := (look_val k h3).1 z hl
        exact .inr (.inr ⟨a, kvs, k, v, rfl, key_kV hy hk, h1, h4, q α F H (List.prefix_refl _) (Same.refl F) w _ h5⟩)
  · exact q.elim
theorem pd_ix {X : Cx} {a b : Expr} {fa fb : RE} {pos : Pos} (ha : PD X W a fa) (hb : PD X W b fb) (hs : PlainIx b := by exact fun _ _ => rfl) : PD X W (.Subscript a b pos) (rBin getD fa fb) :=
  pe_weak (pe_ix ix_A ha hb hs) (tD_bin op2_get)

/-! ### o[a:b] -/
abbrev RO := Sl → List Ob → R (Option Int)
def tDO (K : PySem.W.Frag) (W : WX) (f : RO) : TO := fun σ H Q => ∃ γ α F μ δ, Wd K γ α F H μ ∧ SlIs K α F σ δ ∧ Fin K γ α F (f δ μ) (fun o _ _ _ H' => Q o H') (fun c dd H' => W c dd σ H')
theorem po_weak {X : Cx} {o : Option Expr} {t t' : TO} (h : PO X o t) (i : ∀ σ H Q, t' σ H Q → t σ H Q) : PO X o t' := ⟨fun pins s σ H Q I q => h.run pins s σ H Q I (i _ _ _ q)⟩
abbrev PDO (X : Cx) (W : WX) (o : Option Expr) (f : RO) : Prop := PO X o (tDO X.K W f)
def rNone : RO := fun _ μ => .ok none μ
def rSome (f : RE) : RO := fun δ μ => (f δ μ).bind fun d μ1 => match d with
  | .int i => .ok (some i) μ1
  | _ => .bad
theorem pdo_none {X : Cx} : PDO X W none rNone := po_weak po_none fun σ H Q ⟨γ, α, F, μ, δ, w, s, q⟩ => q α F H (List.prefix_refl _) (Same.refl F) w
theorem pdo_some {X : Cx} {e : Expr} {f : RE} (h : PD X W e f) : PDO X W (some e) (rSome f) := po_weak (po_some h) fun σ H Q ⟨γ, α, F, μ, δ, w, s, q⟩ =>
  tD_go w s q fun d μ1 α1 F1 H1 x p1 e1 w1 s1 hx q1 => by
    cases d with
    | int i => cases hx; exact ⟨i, rfl, q1 α1 F1 H1 (List.prefix_refl _) (Same.refl F1) w1⟩
    | _ => exact q1.elim
theorem tDO_go {τ : Type} {f : RO} {σ : L2.St} {δ : Sl} {g : Option Int → List Ob → R τ} {ok : τ → List Ob → List Addr → Hp → Hp → Prop} {Q : Option Int → Hp → Prop} (w : Wd K γ α F H μ) (s : SlIs K α F σ δ) (q : Fin K γ α F ((f δ μ).bind g) ok (fun c dd H' => W c dd σ H'))
    (k : ∀ b μ1 α1 F1 H1, α <+: α1 → Same F F1 → Wd K γ α1 F1 H1 μ1 → SlIs K α1 F1 σ δ → Fin K γ α1 F1 (g b μ1) ok (fun c dd H' => W c dd σ H') → Q b H1) : tDO K W f σ H Q := by
  refine ⟨γ, α, F, μ, δ, w, s, ?_⟩
  cases hf : f δ μ with
  | ok d μ1 =>
    rw [hf] at q
    exact fun α1 F1 H1 p e w1 => k d μ1 α1 F1 H1 p e w1 (s.mono p e) (q.up p e)
  | exc x μ1 =>
    rw [hf] at q
    exact q
  | bad =>
    rw [hf] at q
    exact q
def cutL {β : Type} (xs : List β) (lo hi : Option Int) : List β := (xs.drop (HT.sIx xs.length 0 lo)).take (HT.sIx xs.length xs.length hi - HT.sIx xs.length 0 lo)
theorem cutL_is {vs : List V} {xs : List D} {lo hi : Option Int} (l : IsL K α F vs xs) : IsL K α F (cutV vs lo hi) (cutL xs lo hi) := by
  unfold cutV cutL
  rw [l.length]
  exact (l.drop _).take _
def sliceD (d : D) (lo hi : Option Int) (μ : List Ob) : R D := match d.view μ with
  | .lst xs => .ok (.lst (cutL xs lo hi)) μ
  | .tup xs => .ok (.tup (cutL xs lo hi)) μ
  | _ => .bad
def rSlice (fa : RE) (fl fh : RO) : RE := fun δ μ => (fa δ μ).bind fun d μ1 => (fl δ μ1).bind fun lo μ2 => (fh δ μ2).bind fun hi μ3 => sliceD d lo hi μ3
def rSliceA (K : PySem.W.Frag) : V → Option Int → Option Int → Hp → VK → Prop := fun x lo hi H Q => rSlL K x lo hi H Q ∨ rSlA K x lo hi H Q
theorem pd_slice {X : Cx} {e : Expr} {lo hi : Option Expr} {fa : RE} {fl fh : RO} {p2 pos : Pos} (he : PD X W e fa) (hl : PDO X W lo fl) (hh : PDO X W hi fh) : PD X W (.Subscript e (.Slice lo hi none p2) pos) (rSlice fa fl fh) :=
  pe_weak (pe_slice (r := rSliceA X.K) (SlR.or sl_list sl_tupA) he hl hh) fun σ H Q ⟨γ, α, F, μ, δ, w, s, q⟩ =>
  tD_go w s q fun d μ1 α1 F1 H1 x p1 e1 w1 s1 hx q1 => tDO_go w1 s1 q1 fun lo μ2 α2 F2 H2 p2 e2 w2 s2 q2 => tDO_go w2 s2 q2 fun hi μ3 α3 F3 H3 p3 e3 w3 s3 q3 => by
    have hx3 := hx.mono (p2.trans p3) (e2.trans e3)
    have vx := w3.view hx3
    unfold sliceD at q3
    split at q3
    · rename_i xs hd
      rw [hd] at vx
      obtain ⟨a, vs, rfl, h1, h2⟩ := vx
      refine .inl ⟨a, vs, rfl, .inl (.inl h1), fun p hp => ?_⟩
      have sn := same_new (o := .lst (cutV vs lo hi)) (w3.sub.free hp)
      exact q3 α3 _ _ (List.prefix_refl _) sn (w3.lay hp) _ (.lst upd_same ((cutL_is h2).mono (List.prefix_refl _) sn))
    · rename_i xs hd
      rw [view_tup hd] at hx3
      cases hx3 with
      | tup ha la =>
      rename_i a vs
      refine .inr ⟨a, vs, rfl, sqt_mono w3.sub ha, fun hw => ?_, fun hw p hp => ?_⟩
      · have e0 : cutL xs lo hi = xs := by
          unfold cutL
          rw [← la.length, hw.1, hw.2, List.drop_zero, Nat.sub_zero, la.length, List.take_length]
        rw [e0] at q3
        exact q3 α3 F3 H3 (List.prefix_refl _) (Same.refl F3) w3 _ (.tup ha la)
      · have sn := same_new (o := .tup (cutV vs lo hi)) (w3.sub.free hp)
        exact q3 α3 _ _ (List.prefix_refl _) sn (w3.lay hp) _ (.tup (.inl (.inl upd_same)) ((cutL_is la).mono (List.prefix_refl _) sn))
    · exact q3.elim
end
end DL

/-! The data layer, e: targets, statements, loops, comprehensions. -/
namespace DL
open PySem L2

/-! ### targets -/
inductive Tg where
  | nm (i : Nat) | tp (is : List Nat)
def Tg.slots : Tg → List Nat
  | .nm i => [i]
  | .tp is => is
def setsV : List Nat → List V → St → St
  | i :: is, v :: vs, σ => setsV is vs (σ.set i (some v))
  | _, _, σ => σ
def setsD : List Nat → List D → Sl → Sl
  | i :: is, d :: ds, δ => setsD is ds (δ.set i (some d))
  | _, _, δ => δ
def Tg.set (t : Tg) (d : D) (δ : Sl) : Option Sl := match t with
  | .nm i => some (δ.set i (some d))
  | .tp is => match d with
    | .tup ds => if ds.length = is.length then some (setsD is ds δ) else none
    | _ => none
def gSets (is : List Nat) : TGs := fun vs σ H Q => vs.length = is.length ∧ Q (setsV is vs σ) H
def Tg.rd (K : PySem.W.Frag) : Tg → TG
  | .nm i => gName i
  | .tp is => fun v σ H Q => ∃ a xs, v = .ref a ∧ SqT K H a xs ∧ xs.length = is.length ∧ Q (setsV is xs σ) H
abbrev PDG (X : Cx) (tg : Expr) (t : Tg) : Prop := PG X tg (t.rd X.K)
section
variable {X : Cx} {pos : Pos}
theorem pg_weak {tg : Expr} {t t' : TG} (h : PG X tg t) (i : ∀ v σ H Q, t' v σ H Q → t v σ H Q) : PG X tg t' := ⟨fun pins s σ H v u Q I r q => h.run pins s σ H v u Q I r (i _ _ _ _ q)⟩
theorem pgs_weak {tg : List Expr} {t t' : TGs} (h : PGs X tg t) (i : ∀ v σ H Q, t' v σ H Q → t v σ H Q) : PGs X tg t' := ⟨fun pins s σ H v u Q I r q => h.run pins s σ H v u Q I r (i _ _ _ _ q)⟩
theorem pdg_nm (i : Nat) {x : Str} (hN : X.N.Nodup) (hi : X.N[i]? = some x := by rfl) (hx : Loc X.env.scope x := by first | exact Or.inl rfl | exact Or.inr rfl) (hf : X.fn x = true ∨ X.env.scope.names.lookup x = some .local := by first | exact .inl rfl | exact .inr rfl | assumption) : PDG X (.Name x pos) (.nm i) :=
  pg_name hN hi hx hf
theorem pgd_nil : PGs X [] (gSets []) := pgs_weak pgs_nil fun v σ H Q q => by
  obtain ⟨h, q⟩ := q
  cases v with
  | nil => exact ⟨rfl, q⟩
  | cons _ _ => cases h
theorem pgd_cons (i : Nat) {x : Str} {es : List Expr} {is : List Nat} {p : Pos} (hN : X.N.Nodup) (h : PGs X es (gSets is)) (hi : X.N[i]? = some x := by rfl) (hx : Loc X.env.scope x := by first | exact Or.inl rfl | exact Or.inr rfl) (hf : X.fn x = true ∨ X.env.scope.names.lookup x = some .local := by first | exact .inl rfl | exact .inr rfl | assumption)
    (hs : (assignEach (.Name x p :: es) X.env).map (·.2) = assign (.Name x p) X.env :: (assignEach es X.env).map (·.2) := by rfl) : PGs X (.Name x p :: es) (gSets (i :: is)) :=
  pgs_weak (pgs_cons (pg_name hN hi hx hf) h hs) fun v σ H Q q => by
    obtain ⟨h, q⟩ := q
    cases v with
    | nil => cases h
    | cons v vs => exact ⟨v, vs, rfl, Nat.succ.inj h, q⟩
theorem pdg_tp {es : List Expr} {is : List Nat} {k : Nat} (hc : X.calm = true) (h : PGs X es (gSets is)) (hn : (assignEach es X.env).length = is.length := by rfl) (hst : (assignEach es X.env).findIdx? (·.1) = none := by rfl) : PDG X (.Tuple es k pos) (.tp is) :=
  pg_weak (pg_tup hc h hn hst) fun v σ H Q q => by
    obtain ⟨a, xs, e1, h1, h2, q⟩ := q
    exact ⟨a, xs, e1, h1, h2, h2, q⟩
end
section
variable {K : PySem.W.Frag} {γ : Hp} {α : List Addr} {F H : Hp} {μ : List Ob} {σ : St} {δ : Sl}
theorem SlIs.sets : ∀ {is : List Nat} {vs : List V} {ds : List D} {σ : St} {δ : Sl}, SlIs K α F σ δ → IsL K α F vs ds → SlIs K α F (setsV is vs σ) (setsD is ds δ)
  | [], _, _, _, _, s, _ => s
  | _ :: _, _, _, _, _, s, .nil => s
  | i :: is, v :: vs, d :: ds, σ, δ, s, .cons h l => SlIs.sets (is := is) (vs := vs) (ds := ds) (σ := σ.set i (some v)) (δ := δ.set i (some d)) (s.set i h) l
/-- a target takes its value -/
theorem Tg.go {t : Tg} {v : V} {d : D} {δ' : Sl} {Q : St → Hp → Prop} (w : Wd K γ α F H μ) (s : SlIs K α F σ δ) (h : Is K α F v d) (e : t.set d δ = some δ')
    (k : ∀ σ', SlIs K α F σ' δ' → (∀ vs : List Nat, (∀ i ∈ t.slots, i ∈ vs) → L2.wipe σ' vs = L2.wipe σ vs) → σ'.length = σ.length → Q σ' H) : t.rd K v σ H Q := by
  have wset : ∀ (vs : List Nat) (σ : St) (i : Nat) (o : Option V), i ∈ vs → L2.wipe (σ.set i o) vs = L2.wipe σ vs := by
    intro vs
    induction vs with
    | nil => intro σ i o h; cases h
    | cons j vs ih =>
      intro σ i o h
      show (L2.wipe (σ.set i o) vs).set j none = (L2.wipe σ vs).set j none
      rcases List.mem_cons.mp h with rfl | h
      · by_cases hm : i ∈ vs
        · rw [ih σ i o hm]
        · have : L2.wipe (σ.set i o) vs = (L2.wipe σ vs).set i o := by
            clear ih h
            induction vs with
            | nil => rfl
            | cons j vs ih =>
              have h1 : i ≠ j := fun e => hm (by rw [e]; exact List.mem_cons_self)
              show (L2.wipe (σ.set i o) vs).set j none = ((L2.wipe σ vs).set j none).set i o
              rw [ih (fun z => hm (List.mem_cons_of_mem _ z)), List.set_comm _ _ h1]
          rw [this, List.set_set]
      · rw [ih σ i o h]
  cases t with
  | nm i =>
    cases e
    exact k _ (s.set i h) (fun vs hv => wset vs σ i _ (hv i (by simp [Tg.slots]))) (by rw [List.length_set])
  | tp is =>
    cases h with
    | tup ha la =>
      rename_i a xs ds
      have e' : (if ds.length = is.length then some (setsD is ds δ) else none) = some δ' := e
      by_cases hl : ds.length = is.length
      · rw [if_pos hl] at e'
        cases e'
        refine ⟨a, xs, rfl, sqt_mono w.sub ha, by rw [la.length]; exact hl, k _ (s.sets la) (fun vs hv => ?_) ?_⟩
        · have key : ∀ (is : List Nat) (xs : List V) (σ : St), (∀ i ∈ is, i ∈ vs) → L2.wipe (setsV is xs σ) vs = L2.wipe σ vs := by
            intro is
            induction is with
            | nil => intro xs σ _; rfl
            | cons i is ih =>
              intro xs σ hv
              cases xs with
              | nil => rfl
              | cons x xs =>
                show L2.wipe (setsV is xs (σ.set i (some x))) vs = _
                rw [ih xs _ (fun j hj => hv j (List.mem_cons_of_mem _ hj)), wset vs σ i _ (hv i List.mem_cons_self)]
          exact key is xs σ hv
        · have key : ∀ (is : List Nat) (xs : List V) (σ : St), (setsV is xs σ).length = σ.length := by
            intro is
            induction is with
            | nil => intro xs σ; rfl
            | cons i is ih =>
              intro xs σ
              cases xs with
              | nil => rfl
              | cons x xs =>
                show (setsV is xs (σ.set i (some x))).length = _
                rw [ih xs _, List.length_set]
          exact key is xs σ
      · rw [if_neg hl] at e'; cases e'
    | _ => cases e
end

/-! ### statements -/
inductive SO where
  | nx (δ : Sl) (μ : List Ob) | rt (d : D) (μ : List Ob) | bk (δ : Sl) (μ : List Ob) | ct (δ : Sl) (μ : List Ob) | exc (x : Exn) (δ : Sl) (μ : List Ob) | bad
abbrev RS := Sl → List Ob → SO
def FinS (K : PySem.W.Frag) (γ : Hp) (α : List Addr) (F : Hp) (r : SO) (D : Ends) (W : WX) : Prop := match r with
  | .nx δ μ => ∀ α' F' H' σ', α <+: α' → Same F F' → Wd K γ α' F' H' μ → SlIs K α' F' σ' δ → D.nx σ' H'
  | .bk δ μ => ∀ α' F' H' σ', α <+: α' → Same F F' → Wd K γ α' F' H' μ → SlIs K α' F' σ' δ → D.bk σ' H'
  | .ct δ μ => ∀ α' F' H' σ', α <+: α' → Same F F' → Wd K γ α' F' H' μ → SlIs K α' F' σ' δ → D.ct σ' H'
  | .rt d μ => ∀ α' F' H' v, α <+: α' → Same F F' → Wd K γ α' F' H' μ → Is K α' F' v d → D.rt v H'
  | .exc x δ μ => ∀ α' F' H' σ' c dd, α <+: α' → Same F F' → Wd K γ α' F' H' μ → SlIs K α' F' σ' δ → XIs K α' F' x c dd → W c dd σ' H'
  | .bad => False
def tSD (K : PySem.W.Frag) (W : WX) (f : RS) : TS := fun D σ H => ∃ γ α F μ δ, Wd K γ α F H μ ∧ SlIs K α F σ δ ∧ FinS K γ α F (f δ μ) D W
abbrev PSD (X : Cx) (W : WX) (st : Stmt) (f : RS) : Prop := PS X st (tSD X.K W f)
abbrev PSDs (X : Cx) (W : WX) (st : List Stmt) (f : RS) : Prop := PSs X st (tSD X.K W f)
theorem ps_weak {X : Cx} {st : Stmt} {t t' : TS} (h : PS X st t) (i : ∀ D σ H, t' D σ H → t D σ H) : PS X st t' := ⟨fun pins s σ H D I q => h.run pins s σ H D I (i _ _ _ q)⟩
theorem pss_weak {X : Cx} {st : List Stmt} {t t' : TS} (h : PSs X st t) (i : ∀ D σ H, t' D σ H → t D σ H) : PSs X st t' := ⟨fun pins s σ H D I q => h.run pins s σ H D I (i _ _ _ q)⟩
section
variable {K : PySem.W.Frag} {γ : Hp} {α α1 : List Addr} {F F1 H : Hp} {μ : List Ob} {σ : St} {δ : Sl} {W : WX}
theorem FinS.up {r : SO} {D : Ends} (p : α <+: α1) (e : Same F F1) (h : FinS K γ α F r D W) : FinS K γ α1 F1 r D W := by
  cases r with
  | nx δ μ => exact fun α' F' H' σ' p' e' => h α' F' H' σ' (p.trans p') (e.trans e')
  | bk δ μ => exact fun α' F' H' σ' p' e' => h α' F' H' σ' (p.trans p') (e.trans e')
  | ct δ μ => exact fun α' F' H' σ' p' e' => h α' F' H' σ' (p.trans p') (e.trans e')
  | rt d μ => exact fun α' F' H' v p' e' => h α' F' H' v (p.trans p') (e.trans e')
  | exc x δ μ => exact fun α' F' H' σ' c dd p' e' => h α' F' H' σ' c dd (p.trans p') (e.trans e')
  | bad => exact h
/-- an expression in a statement: what it gives is handed on -/
def R.st {β : Type} (r : R β) (δ : Sl) (f : β → List Ob → SO) : SO := match r with
  | .ok b μ => f b μ
  | .exc x μ => .exc x δ μ
  | .bad => .bad
@[simp] theorem R.ok_st {β : Type} (b : β) (μ : List Ob) (δ : Sl) (f : β → List Ob → SO) : (R.ok b μ).st δ f = f b μ := rfl
@[simp] theorem R.exc_st {β : Type} (x : Exn) (μ : List Ob) (δ : Sl) (f : β → List Ob → SO) : (R.exc x μ : R β).st δ f = .exc x δ μ := rfl
@[simp] theorem R.bad_st {β : Type} (δ : Sl) (f : β → List Ob → SO) : (R.bad : R β).st δ f = .bad := rfl
theorem tD_st {f : RE} {g : D → List Ob → SO} {D' : Ends} {Q : VK} (w : Wd K γ α F H μ) (s : SlIs K α F σ δ) (q : FinS K γ α F ((f δ μ).st δ g) D' W)
    (k : ∀ d μ1 α1 F1 H1 v, α <+: α1 → Same F F1 → Wd K γ α1 F1 H1 μ1 → SlIs K α1 F1 σ δ → Is K α1 F1 v d → FinS K γ α1 F1 (g d μ1) D' W → Q v H1) : tD K W f σ H Q := by
  refine ⟨γ, α, F, μ, δ, w, s, ?_⟩
  cases hf : f δ μ with
  | ok d μ1 =>
    rw [hf] at q
    exact fun α1 F1 H1 p e w1 v hv => k d μ1 α1 F1 H1 v p e w1 (s.mono p e) hv (q.up p e)
  | exc x μ1 =>
    rw [hf] at q
    exact fun α' F' H' c dd p e w1 hx => q α' F' H' σ c dd p e w1 (s.mono p e) hx
  | bad =>
    rw [hf] at q
    exact q
theorem tDT_st {f : RT} {g : Bool → List Ob → SO} {D' : Ends} {Q : Bool → Hp → Prop} (w : Wd K γ α F H μ) (s : SlIs K α F σ δ) (q : FinS K γ α F ((f δ μ).st δ g) D' W)
    (k : ∀ d μ1 α1 F1 H1, α <+: α1 → Same F F1 → Wd K γ α1 F1 H1 μ1 → SlIs K α1 F1 σ δ → FinS K γ α1 F1 (g d μ1) D' W → Q d H1) : tDT K W f σ H Q := by
  refine ⟨γ, α, F, μ, δ, w, s, ?_⟩
  cases hf : f δ μ with
  | ok d μ1 =>
    rw [hf] at q
    exact fun α1 F1 H1 p e w1 => k d μ1 α1 F1 H1 p e w1 (s.mono p e) (q.up p e)
  | exc x μ1 =>
    rw [hf] at q
    exact fun α' F' H' c dd p e w1 hx => q α' F' H' σ c dd p e w1 (s.mono p e) hx
  | bad =>
    rw [hf] at q
    exact q
theorem tSD_last {f : RS} {D' : Ends} (w : Wd K γ α F H μ) (s : SlIs K α F σ δ) (q : FinS K γ α F (f δ μ) D' W) : tSD K W f D' σ H := ⟨γ, α, F, μ, δ, w, s, q⟩
theorem FinS.nx_ {D' : Ends} (w : Wd K γ α F H μ) (s : SlIs K α F σ δ) (q : FinS K γ α F (.nx δ μ) D' W) : D'.nx σ H := q α F H σ (List.prefix_refl _) (Same.refl F) w s
end
section
variable {X : Cx} {W : WX} {e c a b o i : Expr} {st : Stmt} {sts rest : List Stmt} {f fa fb fo fi : RE} {ft : RT} {g h : RS} {pos pos' p : Pos}
def rSeq (g h : RS) : RS := fun δ μ => match g δ μ with
  | .nx δ1 μ1 => h δ1 μ1
  | r => r
theorem psd_nil : PSDs X W [] (fun δ μ => .nx δ μ) := pss_weak pss_nil fun D σ H ⟨γ, α, F, μ, δ, w, s, q⟩ => q.nx_ w s
theorem psd_cons (h1 : PSD X W st g) (h2 : PSDs X W rest h) : PSDs X W (st :: rest) (rSeq g h) :=
  pss_weak (pss_cons h1 h2) fun D σ H ⟨γ, α, F, μ, δ, w, s, q⟩ => by
    refine ⟨γ, α, F, μ, δ, w, s, ?_⟩
    unfold rSeq at q
    cases hg : g δ μ with
    | nx δ1 μ1 =>
      rw [hg] at q
      exact fun α' F' H' σ' p e w' s' => ⟨γ, α', F', μ1, δ1, w', s', q.up p e⟩
    | _ => rw [hg] at q; exact q
theorem psd_one (h1 : PSD X W st g) : PSDs X W [st] g := pss_one h1
theorem psd_pass : PSD X W (.Pass pos) (fun δ μ => .nx δ μ) := ps_weak ps_pass fun D σ H ⟨γ, α, F, μ, δ, w, s, q⟩ => q.nx_ w s
theorem psd_break : PSD X W (.Break pos) (fun δ μ => .bk δ μ) := ps_weak ps_break fun D σ H ⟨γ, α, F, μ, δ, w, s, q⟩ => q α F H σ (List.prefix_refl _) (Same.refl F) w s
theorem psd_cont : PSD X W (.Continue pos) (fun δ μ => .ct δ μ) := ps_weak ps_continue fun D σ H ⟨γ, α, F, μ, δ, w, s, q⟩ => q α F H σ (List.prefix_refl _) (Same.refl F) w s
def rDrop (f : RE) : RS := fun δ μ => (f δ μ).st δ fun _ μ1 => .nx δ μ1
theorem psd_expr (he : PD X W e f) (hs : swapsWith e none pos.line X.env = pure false := by rfl) : PSD X W (.Expr e pos) (rDrop f) :=
  ps_weak (ps_expr he hs) fun D σ H ⟨γ, α, F, μ, δ, w, s, q⟩ => tD_st w s q fun d μ1 α1 F1 H1 v p1 e1 w1 s1 hv q1 => q1.nx_ w1 s1
def rRet (f : RE) : RS := fun δ μ => (f δ μ).st δ fun d μ1 => .rt d μ1
theorem psd_ret (he : PD X W e f) : PSD X W (.Return (some e) pos) (rRet f) :=
  ps_weak (ps_ret he) fun D σ H ⟨γ, α, F, μ, δ, w, s, q⟩ => tD_st w s q fun d μ1 α1 F1 H1 v p1 e1 w1 s1 hv q1 => q1 α1 F1 H1 v (List.prefix_refl _) (Same.refl F1) w1 hv
def rIfS (ft : RT) (g h : RS) : RS := fun δ μ => (ft δ μ).st δ fun k μ1 => match k with
  | true => g δ μ1
  | false => h δ μ1
theorem psd_if {sa sb : List Stmt} (hc : PDT X W c ft) (ha : PSDs X W sa g) (hb : PSDs X W sb h) : PSD X W (.If c sa sb pos) (rIfS ft g h) :=
  ps_weak (ps_if hc ha hb) fun D σ H ⟨γ, α, F, μ, δ, w, s, q⟩ => tDT_st w s q fun d μ1 α1 F1 H1 p1 e1 w1 s1 q1 => by
    cases d with
    | true => rw [if_pos rfl]; exact tSD_last w1 s1 q1
    | false => rw [if_neg Bool.false_ne_true]; exact tSD_last w1 s1 q1
/-- code that is never come to -/
theorem psd_never : PSD X W st (fun _ _ => .bad) := ps_weak ps_never fun D σ H ⟨γ, α, F, μ, δ, w, s, q⟩ => q
theorem psds_never : PSDs X W sts (fun _ _ => .bad) := pss_weak pss_never fun D σ H ⟨γ, α, F, μ, δ, w, s, q⟩ => q
/-- name = e -/
def rSet (i : Nat) (f : RE) : RS := fun δ μ => (f δ μ).st δ fun d μ1 => .nx (δ.set i (some d)) μ1
theorem psd_set (i : Nat) {x : Str} (hN : X.N.Nodup) (he : PD X W e f) (hi : X.N[i]? = some x := by rfl) (hx : Loc X.env.scope x := by first | exact Or.inl rfl | exact Or.inr rfl) (hs : swapsWith e (some (.Name x pos')) pos.line X.env = pure false := by rfl) (hf : X.fn x = true ∨ X.env.scope.names.lookup x = some .local := by first | exact .inl rfl | exact .inr rfl | assumption) :
    PSD X W (.Assign [.Name x pos'] e pos) (rSet i f) :=
  ps_weak (ps_set hN hi hx he hs hf) fun D σ H ⟨γ, α, F, μ, δ, w, s, q⟩ => tD_st w s q fun d μ1 α1 F1 H1 v p1 e1 w1 s1 hv q1 => q1.nx_ w1 (s1.set i hv)
/-- a, b, .. = e -/
def rAsg (t : Tg) (f : RE) : RS := fun δ μ => (f δ μ).st δ fun d μ1 => match t.set d δ with
  | some δ1 => .nx δ1 μ1
  | none => .bad
theorem psd_asg {tg : Expr} {t : Tg} (he : PD X W e f) (hg : PDG X tg t) (hs : swapsWithSole [tg] e pos.line X.env = pure false := by rfl) (hw : swappedStores [tg] e X.env = pure none := by rfl)
    (h1 : (assignEach [tg] X.env).map (·.2) = [assign tg X.env] := by rfl) : PSD X W (.Assign [tg] e pos) (rAsg t f) :=
  ps_weak (ps_asg he hg hs hw h1) fun D σ H ⟨γ, α, F, μ, δ, w, s, q⟩ => tD_st w s q fun d μ1 α1 F1 H1 v p1 e1 w1 s1 hv q1 => by
    cases ht : t.set d δ with
    | none => rw [ht] at q1; exact q1.elim
    | some δ1 =>
      rw [ht] at q1
      exact Tg.go w1 s1 hv ht fun σ' s' _ _ => q1.nx_ w1 s'
/-- a, b = x, y -/
def rPar (i j : Nat) (fs : RA) : RS := fun δ μ => (fs δ μ).st δ fun ds μ1 => match ds with
  | [d, e] => .nx ((δ.set i (some d)).set j (some e)) μ1
  | _ => .bad
theorem tDA_st {K : PySem.W.Frag} {γ : Hp} {α : List Addr} {F H : Hp} {μ : List Ob} {σ : St} {δ : Sl} {f : RA} {g : List D → List Ob → SO} {D' : Ends} {Q : List V → Hp → Prop} (w : Wd K γ α F H μ) (s : SlIs K α F σ δ) (q : FinS K γ α F ((f δ μ).st δ g) D' W)
    (k : ∀ d μ1 α1 F1 H1 v, α <+: α1 → Same F F1 → Wd K γ α1 F1 H1 μ1 → SlIs K α1 F1 σ δ → IsL K α1 F1 v d → FinS K γ α1 F1 (g d μ1) D' W → Q v H1) : tDA K W f σ H Q := by
  refine ⟨γ, α, F, μ, δ, w, s, ?_⟩
  cases hf : f δ μ with
  | ok d μ1 =>
    rw [hf] at q
    exact fun α1 F1 H1 p e w1 v hv => k d μ1 α1 F1 H1 v p e w1 (s.mono p e) hv (q.up p e)
  | exc x μ1 =>
    rw [hf] at q
    exact fun α' F' H' c dd p e w1 hx => q α' F' H' σ c dd p e w1 (s.mono p e) hx
  | bad =>
    rw [hf] at q
    exact q
theorem psd_par (i j : Nat) {x y : Str} {px py pt pt2 : Pos} {kt k2 : Nat} {fs : RA} (hc : X.calm = true) (hN : X.N.Nodup) (ha : PDA X W [a, b] fs) (hij : i ≠ j := by decide) (hi : X.N[i]? = some x := by rfl) (hj : X.N[j]? = some y := by rfl)
    (hx : X.env.scope.names.lookup x = some .local := by rfl) (hy : X.env.scope.names.lookup y = some .local := by rfl)
    (hw : swappedStores [.Tuple [.Name x px, .Name y py] kt pt] (.Tuple [a, b] k2 pt2) X.env = pure (some [x, y]) := by rfl)
    (hs : swapsWithSole [.Tuple [.Name x px, .Name y py] kt pt] (.Tuple [a, b] k2 pt2) pos.line X.env = pure false := by rfl) :
    PSD X W (.Assign [.Tuple [.Name x px, .Name y py] kt pt] (.Tuple [a, b] k2 pt2) pos) (rPar i j fs) :=
  ps_weak (ps_par hc hN hi hj hij hx hy ha hw hs) fun D σ H ⟨γ, α, F, μ, δ, w, s, q⟩ => tDA_st w s q fun ds μ1 α1 F1 H1 vs p1 e1 w1 s1 hv q1 => by
    match ds, hv, q1 with
    | [d, e], .cons h1 (.cons h2 .nil), q1 => exact ⟨_, _, rfl, q1.nx_ w1 ((s1.set i h1).set j h2)⟩
    | [], _, q1 => exact q1.elim
    | [_], _, q1 => exact q1.elim
    | _ :: _ :: _ :: _, _, q1 => exact q1.elim
/-- name += e, ints -/
def rAug (i : Nat) (g : Int → Int → Int) (f : RE) : RS := fun δ μ => match δ[i]? with
  | some (some (.int a)) => (f δ μ).st δ fun d μ1 => match d with
    | .int b => .nx (δ.set i (some (.int (g a b)))) μ1
    | _ => .bad
  | _ => .bad
theorem psd_aug (i : Nat) {x : Str} {op : Operator} {gi : Int → Int → Int} (hN : X.N.Nodup) (he : PD X W e f) (ho : PIp X op (ipI gi)) (hi : X.N[i]? = some x := by rfl) (hx : Loc X.env.scope x := by first | exact Or.inl rfl | exact Or.inr rfl) (hf : X.fn x = true ∨ X.env.scope.names.lookup x = some .local := by first | exact .inl rfl | exact .inr rfl | assumption) :
    PSD X W (.AugAssign (.Name x pos') op e pos) (rAug i gi f) :=
  ps_weak (ps_aug hN hi hx he ho hf) fun D σ H ⟨γ, α, F, μ, δ, w, s, q⟩ => by
    unfold rAug at q
    split at q
    · rename_i a0 hd
      obtain ⟨v, h1, h2⟩ := s.at_ i _ hd
      cases h2
      refine ⟨_, h1, tD_st w s q fun d μ1 α1 F1 H1 v p1 e1 w1 s1 hv q1 => ?_⟩
      cases d with
      | int b => cases hv; exact ⟨a0, b, rfl, rfl, q1.nx_ w1 (s1.set i (.int _))⟩
      | _ => exact q1.elim
    · exact q.elim
end

/-! ### what is walked -/
def WalkD (K : PySem.W.Frag) (α : List Addr) (F : Hp) (J : It) (ds : List D) : Prop := ∀ (i : Nat) γ α' F' H μ, α <+: α' → Same F F' → Wd K γ α' F' H μ →
  (∀ d, ds[i]? = some d → J.go i H ∧ ∀ x H', J.yld i H x H' → ∃ F'', Same F' F'' ∧ Wd K γ α' F'' H' μ ∧ Is K α' F'' x d) ∧ (i = ds.length → J.stop i H)
theorem WalkD.mono {K : PySem.W.Frag} {α α1 : List Addr} {F F1 : Hp} {J : It} {ds : List D} (h : WalkD K α F J ds) (p : α <+: α1) (e : Same F F1) : WalkD K α1 F1 J ds := fun i γ α' F' H μ p' e' w => h i γ α' F' H μ (p.trans p') (e.trans e') w
def tDI (K : PySem.W.Frag) (W : WX) (f : RA) : TI := fun σ H R => ∃ γ α F μ δ, Wd K γ α F H μ ∧ SlIs K α F σ δ ∧ Fin K γ α F (f δ μ) (fun ds _ α' F' H' => ∀ J, WalkD K α' F' J ds → R J H') (fun c dd H' => W c dd σ H')
abbrev PDI (X : Cx) (W : WX) (tg iter : Expr) (f : RA) : Prop := PI X tg iter (tDI X.K W f)
theorem pi_weak {X : Cx} {tg e : Expr} {t t' : TI} (h : PI X tg e t) (i : ∀ σ H Q, t' σ H Q → t σ H Q) : PI X tg e t' := ⟨fun pins s σ H Q I q => h.run pins s σ H Q I (i _ _ _ q)⟩
section
variable {K : PySem.W.Frag} {γ : Hp} {α : List Addr} {F H : Hp} {μ : List Ob}
theorem walk_list {a : Addr} {vs : List V} {ds : List D} (h : SqL K F a vs) (l : IsL K α F vs ds) : WalkD K α F (Itl K a) ds := fun i γ α' F' H μ p e w => by
  have h' : SqL K H a vs := w.sub.seq (e.seq h)
  refine ⟨fun d hd => ?_, fun hi => ⟨vs, h', by rw [l.length, hi]; exact Nat.le_refl _⟩⟩
  obtain ⟨v, hv, hvd⟩ := l.get hd
  refine ⟨⟨vs, v, h', hv⟩, fun x H' y => ?_⟩
  obtain ⟨rfl, y⟩ := y
  have := y vs h'
  rw [hv] at this
  cases this
  exact ⟨F', Same.refl F', w, hvd.mono p e⟩
theorem walk_tup {a : Addr} {vs : List V} {ds : List D} (h : SqT K F a vs) (l : IsL K α F vs ds) : WalkD K α F (Itt K a) ds := fun i γ α' F' H μ p e w => by
  have h' : SqT K H a vs := sqt_mono w.sub (sqt_mono e h)
  refine ⟨fun d hd => ?_, fun hi => ⟨vs, h', by rw [l.length, hi]; exact Nat.le_refl _⟩⟩
  obtain ⟨v, hv, hvd⟩ := l.get hd
  refine ⟨⟨vs, v, h', hv⟩, fun x H' y => ?_⟩
  obtain ⟨rfl, y⟩ := y
  have := y vs h'
  rw [hv] at this
  cases this
  exact ⟨F', Same.refl F', w, hvd.mono p e⟩
def upTo (lo : Int) (n : Nat) : List D := (List.range n).map fun k => D.int (lo + (k : Nat))
theorem walk_range {lo : Int} {n : Nat} : WalkD K α F (Itr lo n) (upTo lo n) := fun i γ α' F' H μ p e w => by
  unfold upTo
  refine ⟨fun d hd => ?_, fun hi => ?_⟩
  · rw [List.getElem?_map] at hd
    cases hr : (List.range n)[i]? with
    | none => rw [hr] at hd; cases hd
    | some k =>
      rw [hr] at hd
      obtain ⟨hl, hk⟩ := List.getElem?_eq_some_iff.mp hr
      rw [List.length_range] at hl
      rw [List.getElem_range] at hk
      subst hk
      cases hd
      refine ⟨hl, fun x H' y => ?_⟩
      obtain ⟨rfl, rfl⟩ := y
      exact ⟨F', Same.refl F', w, .int _⟩
  · rw [List.length_map, List.length_range] at hi
    show n ≤ i
    omega
end
end DL

/-! The data layer, f: what is walked, for, comprehensions. -/
namespace DL
open PySem L2

def Key.d : Key → D
  | .inl i => .int i
  | .inr s => .str s
def itemsD : D → Option (List D)
  | .lst xs => some xs
  | .frl xs => some xs
  | .tup xs => some xs
  | .dct ks _ => some (ks.map Key.d)
  | _ => none
section
variable {K : PySem.W.Frag} {γ : Hp} {α : List Addr} {F H : Hp} {μ : List Ob} {W : WX}
theorem key_is {k : Key} : Is K α F (kV k) (Key.d k) := by
  cases k with
  | inl i => exact .int i
  | inr s => exact .str s
theorem walk_keys {a : Addr} {o : Obj} {kvs : List (Key × V)} (h : F a = some (.frz o (.dK kvs))) : WalkD K α F (Itk a o kvs) ((kvs.map (·.1)).map Key.d) := fun i γ α' F' H μ p e w => by
  have h' : H a = some (.frz o (.dK kvs)) := w.sub _ _ (e _ _ h)
  rw [List.map_map]
  refine ⟨fun d hd => ?_, fun hi => ⟨h', by rw [List.length_map] at hi; omega⟩⟩
  rw [List.getElem?_map] at hd
  cases hk : kvs[i]? with
  | none => rw [hk] at hd; cases hd
  | some kv =>
    rw [hk] at hd
    cases hd
    refine ⟨⟨h', (List.getElem?_eq_some_iff.mp hk).1⟩, fun x H' y => ?_⟩
    obtain ⟨rfl, k, v, hy, rfl⟩ := y
    rw [hk] at hy
    cases hy
    exact ⟨F', Same.refl F', w, key_is⟩
theorem walk_items {a : Addr} {o : Obj} {kvs : List (Key × V)} {ds : List D} (h : F a = some (.frz o (.dK kvs))) (l : IsL K α F (kvs.map (·.2)) ds) :
    WalkD K α F (Iti a o kvs) (((kvs.map (·.1)).zip ds).map fun q => D.tup [Key.d q.1, q.2]) := fun i γ α' F' H μ p e w => by
  have h' : H a = some (.frz o (.dK kvs)) := w.sub _ _ (e _ _ h)
  have hlen : ds.length = kvs.length := by rw [← l.length, List.length_map]
  refine ⟨fun d hd => ?_, fun hi => ⟨h', by rw [List.length_map, List.length_zip, List.length_map, hlen] at hi; omega⟩⟩
  rw [List.getElem?_map] at hd
  cases hz : ((kvs.map (·.1)).zip ds)[i]? with
  | none => rw [hz] at hd; cases hd
  | some q =>
    rw [hz] at hd
    cases hd
    obtain ⟨q1, q2⟩ := q
    rw [List.getElem?_zip_eq_some] at hz
    obtain ⟨z1, z2⟩ := hz
    rw [List.getElem?_map] at z1
    cases hk : kvs[i]? with
    | none => rw [hk] at z1; cases z1
    | some kv =>
      rw [hk] at z1
      cases z1
      obtain ⟨v, hv, hvd⟩ := l.get z2
      rw [List.getElem?_map, hk] at hv
      cases hv
      refine ⟨⟨h', (List.getElem?_eq_some_iff.mp hk).1⟩, fun x H' y => ?_⟩
      obtain ⟨T, k, v, hy, rfl, hT, rfl⟩ := y
      rw [hk] at hy
      cases hy
      have sn := same_new (o := .tup [kV k, v]) (w.sub.free hT)
      exact ⟨_, sn, w.lay hT, .tup (.inl (.inl upd_same)) (.cons key_is (.cons (hvd.mono p (e.trans sn)) .nil))⟩
/-- any list, tuple, dict that stands still -/
def iAny (K : PySem.W.Frag) (tl : TE) : TI := fun σ H R => tl σ H fun x H1 => ∃ a, x = .ref a ∧
  (((∃ xs, SqL K H1 a xs) ∧ R (Itl K a) H1) ∨ ((∃ xs, SqT K H1 a xs) ∧ R (Itt K a) H1) ∨ ∃ o kvs, H1 a = some (.frz o (.dK kvs)) ∧ R (Itk a o kvs) H1)
theorem pi_any {X : Cx} {tg l : Expr} {tl : TE} (hl : PE X l tl) : PI X tg l (iAny X.K tl) := by
  refine ⟨fun pins s σ H R I h => thn (hl.run pins s σ H _ I h) fun v s1 ⟨x, H1, I1, r1, a, e, q1⟩ => ?_⟩
  subst e
  cases r1
  rcases q1 with ⟨⟨xs, hq⟩, q⟩ | ⟨⟨xs, hq⟩, q⟩ | ⟨o, kvs, hd, q⟩
  · obtain ⟨its, rv, p, hz⟩ := I1.list hq
    exact wpAny_pyIter_list p.isList (pi_one (tk := s1.toks) I1 _ (turn_list a _) ⟨_, Heap.get?_push_size _ rfl, rfl, rfl⟩ q)
  · obtain ⟨its, rv, p, hz⟩ := I1.tuple hq
    exact wpAny_pyIter_tuple (show s1.heap.IsTuple a its.toArray from p) (pi_one (tk := s1.toks) I1 _ (turn_tuple a _) ⟨_, Heap.get?_push_size _ rfl, rfl, rfl⟩ q)
  · obtain ⟨hs, hgd, hx, es, ep, vs, hdt, hsz, kv, hm⟩ := I1.frzK hd
    refine iter_keys hs hgd hx hdt (pi_one (tk := s1.toks) I1 _ (turn_keys _ hdt) ⟨_, Heap.get?_push_size _ rfl, rfl, ?_⟩ q)
    rw [hsz]; rfl
def rItems (f : RE) : RA := fun δ μ => (f δ μ).bind fun d μ1 => match itemsD d with
  | some xs => .ok xs μ1
  | none => .bad
theorem pdi_any {X : Cx} {tg l : Expr} {f : RE} (hl : PD X W l f) : PDI X W tg l (rItems f) :=
  pi_weak (pi_any hl) fun σ H Rw ⟨γ, α, F, μ, δ, w, s, q⟩ => tD_go w s q fun d μ1 α1 F1 H1 x p1 e1 w1 s1 hx q1 => by
    have fin : ∀ {J : It} {xs : List D}, WalkD X.K α1 F1 J xs → Fin X.K γ α1 F1 (R.ok xs μ1) (fun ds _ α' F' H' => ∀ J, WalkD X.K α' F' J ds → Rw J H') (fun c dd H' => W c dd σ H') → Rw J H1 := fun h q => q α1 F1 H1 (List.prefix_refl _) (Same.refl F1) w1 _ h
    cases hx with
    | lst h l => exact ⟨_, rfl, .inl ⟨⟨_, .inl (.inl (w1.sub _ _ h))⟩, fin (walk_list (.inl (.inl h)) l) q1⟩⟩
    | frl h l => exact ⟨_, rfl, .inl ⟨⟨_, w1.sub.seq h⟩, fin (walk_list h l) q1⟩⟩
    | tup h l => exact ⟨_, rfl, .inr (.inl ⟨⟨_, sqt_mono w1.sub h⟩, fin (walk_tup h l) q1⟩)⟩
    | dct h e l =>
      obtain ⟨o, h⟩ := h
      subst e
      exact ⟨_, rfl, .inr (.inr ⟨o, _, w1.sub _ _ h, fin (walk_keys h) q1⟩)⟩
    | _ => exact q1.elim
/-- range(n), range(a, b) -/
def rRange1 (fs : RA) : RA := fun δ μ => (fs δ μ).bind fun ds μ1 => match ds with
  | [.int j] => if -(2 ^ 62) ≤ j ∧ j < 2 ^ 62 then .ok (upTo 0 j.toNat) μ1 else .bad
  | _ => .bad
def rRange2 (fs : RA) : RA := fun δ μ => (fs δ μ).bind fun ds μ1 => match ds with
  | [.int i, .int j] => if -(2 ^ 62) ≤ i ∧ i < 2 ^ 62 ∧ -(2 ^ 62) ≤ j ∧ j < 2 ^ 62 then .ok (upTo i (j - i).toNat) μ1 else .bad
  | _ => .bad
theorem pdi_range1 {X : Cx} {tg a : Expr} {fs : RA} {p pos : Pos} (hg : Gl X "range") (hm : X.mg "range" = none) (ha : PDA X W [a] fs) (hs : starEach [a] X.env = [(false, eval a X.env)] := by rfl) : PDI X W tg (.Call (.Name "range" p) [a] [] pos) (rRange1 fs) :=
  pi_weak (pi_range1 hg hm ha hs) fun σ H R ⟨γ, α, F, μ, δ, w, s, q⟩ => tDA_go w s q fun ds μ1 α1 F1 H1 x p1 e1 w1 s1 hx q1 => by
    split at q1
    · rename_i j
      split at q1
      · rename_i hj
        cases hx with
        | cons h l =>
          cases l; cases h
          exact ⟨j, rfl, hj.1, hj.2, q1 α1 F1 H1 (List.prefix_refl _) (Same.refl F1) w1 _ walk_range⟩
      · exact q1.elim
    · exact q1.elim
theorem pdi_range2 {X : Cx} {tg a b : Expr} {fs : RA} {p pos : Pos} (hg : Gl X "range") (hm : X.mg "range" = none) (ha : PDA X W [a, b] fs) (hs : starEach [a, b] X.env = [(false, eval a X.env), (false, eval b X.env)] := by rfl) (hs2 : starEach [b] X.env = [(false, eval b X.env)] := by rfl) :
    PDI X W tg (.Call (.Name "range" p) [a, b] [] pos) (rRange2 fs) :=
  pi_weak (pi_range2 hg hm ha hs hs2) fun σ H R ⟨γ, α, F, μ, δ, w, s, q⟩ => tDA_go w s q fun ds μ1 α1 F1 H1 x p1 e1 w1 s1 hx q1 => by
    split at q1
    · rename_i i j
      split at q1
      · rename_i hj
        cases hx with
        | cons h l =>
          cases h
          cases l with
          | cons h l =>
            cases l; cases h
            exact ⟨i, j, rfl, hj, q1 α1 F1 H1 (List.prefix_refl _) (Same.refl F1) w1 _ walk_range⟩
      · exact q1.elim
    · exact q1.elim
/-- d.items() -/
def rItemsM (f : RE) : RA := fun δ μ => (f δ μ).bind fun d μ1 => match d with
  | .dct ks xs => .ok ((ks.zip xs).map fun q => D.tup [Key.d q.1, q.2]) μ1
  | _ => .bad
theorem pdi_items {X : Cx} {e : Expr} {elts : List Expr} {kk : Nat} {tpos apos cpos : Pos} {f : RE} (he : PD X W e f) (hbase : attributeBase e "items" X.env (eval e X.env) = eval e X.env := by rfl) (hline : (apos.endLine == cpos.line) = true := by rfl) :
    PDI X W (.Tuple elts kk tpos) (.Call (.Attribute e "items" apos) [] [] cpos) (rItemsM f) :=
  pi_weak (pi_items he hbase hline) fun σ H R ⟨γ, α, F, μ, δ, w, s, q⟩ => tD_go w s q fun d μ1 α1 F1 H1 x p1 e1 w1 s1 hx q1 => by
    cases hx with
    | dct h e l =>
      obtain ⟨o, h⟩ := h
      subst e
      exact ⟨_, o, _, rfl, w1.sub _ _ h, q1 α1 F1 H1 (List.prefix_refl _) (Same.refl F1) w1 _ (walk_items h l)⟩
    | _ => exact q1.elim
end

/-! ### for -/
def forL (t : Tg) (body : RS) : List D → RS
  | [] => fun δ μ => .nx δ μ
  | x :: xs => fun δ μ => match t.set x δ with
    | none => .bad
    | some δ1 => match body δ1 μ with
      | .nx δ2 μ2 => forL t body xs δ2 μ2
      | .ct δ2 μ2 => forL t body xs δ2 μ2
      | .bk δ2 μ2 => .nx δ2 μ2
      | r => r
def rFor (fi : RA) (t : Tg) (body : RS) : RS := fun δ μ => (fi δ μ).st δ fun ds μ1 => forL t body ds δ μ1
theorem psd_for {X : Cx} {W : WX} {tg iter : Expr} {body : List Stmt} {fi : RA} {t : Tg} {fb : RS} {pos : Pos} (hp : PassesOwn (model X.prog X.w) X.A X.env X.xe) (hc : X.calm = true) (hi : PDI X W tg iter fi) (hg : PDG X tg t) (hb : PSDs X W body fb)
    (hs : ∀ x, foldedSetIterable iter X.env x = pure x := by intro _; rfl) : PSD X W (.For tg iter body [] pos) (rFor fi t fb) :=
  ps_weak (ps_for hp hc hi hg hb hs) fun D σ H ⟨γ, α, F, μ, δ, w, s, q⟩ => by
    refine ⟨γ, α, F, μ, δ, w, s, ?_⟩
    unfold rFor at q
    cases hf : fi δ μ with
    | bad => rw [hf] at q; exact q
    | exc x μ1 => rw [hf] at q; exact fun α' F' H' c dd p e w1 hx => q α' F' H' σ c dd p e w1 (s.mono p e) hx
    | ok ds μ1 =>
      rw [hf] at q
      intro α1 F1 H1 p1 e1 w1 J hJ
      have q1 := q.up p1 e1
      have s1 := s.mono p1 e1
      refine ⟨fun i m σ H => m = ds.length - i ∧ i ≤ ds.length ∧ ∃ α' F' μ' δ', Wd X.K γ α' F' H μ' ∧ SlIs X.K α' F' σ δ' ∧ WalkD X.K α' F' J ds ∧ FinS X.K γ α' F' (forL t fb (ds.drop i) δ' μ') D W,
        ⟨ds.length, by simp, Nat.zero_le _, α1, F1, μ1, δ, w1, s1, hJ, q1⟩, ?_⟩
      rintro i m σ2 H2 ⟨rfl, hi, α2, F2, μ2, δ2, w2, s2, hJ2, q2⟩
      obtain ⟨j1, j2⟩ := hJ2 i γ α2 F2 H2 μ2 (List.prefix_refl _) (Same.refl F2) w2
      by_cases hlt : i < ds.length
      · obtain ⟨hgo, hy⟩ := j1 ds[i] (List.getElem?_eq_getElem hlt)
        rw [List.drop_eq_getElem_cons hlt] at q2
        unfold forL at q2
        right
        refine ⟨hgo, fun σ' H' => i + 1 ≤ ds.length ∧ ∃ α' F' μ' δ', Wd X.K γ α' F' H' μ' ∧ SlIs X.K α' F' σ' δ' ∧ WalkD X.K α' F' J ds ∧ FinS X.K γ α' F' (forL t fb (ds.drop (i + 1)) δ' μ') D W,
          fun σ' H' n => ⟨ds.length - (i + 1), by omega, rfl, n.1, n.2⟩, fun x H3 y => ?_⟩
        obtain ⟨F3, e3, w3, hx⟩ := hy x H3 y
        have q3 := q2.up (List.prefix_refl _) e3
        have s3 := s2.mono (List.prefix_refl _) e3
        have hJ3 := hJ2.mono (List.prefix_refl _) e3
        cases ht : t.set ds[i] δ2 with
        | none => rw [ht] at q3; exact q3.elim
        | some δ3 =>
          rw [ht] at q3
          refine Tg.go w3 s3 hx ht fun σ4 s4 _ _ => ⟨γ, α2, F3, μ2, δ3, w3, s4, ?_⟩
          dsimp only at q3
          cases hbd : fb δ3 μ2 with
          | nx δ5 μ5 =>
            rw [hbd] at q3
            exact fun α5 F5 H5 σ5 p5 e5 w5 s5 => ⟨hlt, α5, F5, μ5, δ5, w5, s5, hJ3.mono p5 e5, q3.up p5 e5⟩
          | ct δ5 μ5 =>
            rw [hbd] at q3
            exact fun α5 F5 H5 σ5 p5 e5 w5 s5 => ⟨hlt, α5, F5, μ5, δ5, w5, s5, hJ3.mono p5 e5, q3.up p5 e5⟩
          | bk δ5 μ5 => rw [hbd] at q3; exact q3
          | rt d μ5 => rw [hbd] at q3; exact q3
          | exc x δ5 μ5 => rw [hbd] at q3; exact q3
          | bad => rw [hbd] at q3; exact q3
      · have e : i = ds.length := by omega
        subst e
        rw [List.drop_length] at q2
        exact .inl ⟨j2 rfl, q2.nx_ w2 s2⟩

/-! ### comprehensions -/
abbrev W0 : WX := fun _ _ _ _ => False
/-- the element's readings: nothing raises within -/
def compL (t : Tg) (vs : List Nat) (ft : RT) (fe : RE) : List D → Sl → List Ob → List D → R (List D)
  | [], _, μ, acc => .ok acc μ
  | x :: xs, δ, μ, acc => match t.set x (wipeD δ vs) with
    | none => .bad
    | some δ1 => match ft δ1 μ with
      | .ok true μ1 => match fe δ1 μ1 with
        | .ok y μ2 => if acc.length < 16777216 then compL t vs ft fe xs δ μ2 (acc ++ [y]) else .bad
        | _ => .bad
      | .ok false μ1 => compL t vs ft fe xs δ μ1 acc
      | _ => .bad
def rYes : RT := fun _ μ => .ok true μ
def rLc (fi : RA) (t : Tg) (vs : List Nat) (ft : RT) (fe : RE) : RE := fun δ μ => (fi δ μ).bind fun ds μ1 => (compL t vs ft fe ds δ μ1 []).bind fun ys μ2 => .ok (.lst ys) μ2
abbrev PDTs (X : Cx) (W : WX) (es : List Expr) (f : RT) : Prop := PTs X es (tDT X.K W f)
theorem pts_weak {X : Cx} {e : List Expr} {t t' : TT} (h : PTs X e t) (i : ∀ σ H Q, t' σ H Q → t σ H Q) : PTs X e t' := ⟨fun pins s σ H Q I q => h.run pins s σ H Q I (i _ _ _ q)⟩
theorem pdts_nil {X : Cx} {W : WX} : PDTs X W [] rYes := pts_weak pts_nil fun σ H Q ⟨γ, α, F, μ, δ, w, s, q⟩ => q α F H (List.prefix_refl _) (Same.refl F) w
theorem pdts_one {X : Cx} {W : WX} {c : Expr} {ft : RT} (h : PDT X W c ft) : PDTs X W [c] ft := pts_one h
section
variable {K : PySem.W.Frag} {W : WX}
theorem Wd.gnew {γ : Hp} {α : List Addr} {F H : Hp} {μ : List Ob} {p : Addr} {o : HO} (w : Wd K γ α F H μ) (hp : H p = none) : Wd K (upd γ p o) α F (upd H p o) μ := by
  have w1 := w.lay0 (o := o) hp
  refine ⟨w1.len, w1.inj, w1.sub, w1.there, w1.apart, w1.obj, same_both w.gs, fun a h => ?_, fun k a h => ?_⟩
  · by_cases e : a = p
    · rw [e]; exact w.sub.free hp
    · rw [upd_ne e] at h; exact w.gf a h
  · have ne : a ≠ p := fun e => w.there k a h (by rw [e]; exact hp)
    rw [upd_ne ne]
    exact w.ga k a h
theorem Wd.gput {γ : Hp} {α : List Addr} {F H : Hp} {μ : List Ob} {p : Addr} {o o' : HO} (w : Wd K (upd γ p o) α F H μ) (hp : γ p = none) : Wd K (upd γ p o') α F (upd H p o') μ := by
  have fp : F p = none := w.gf p (by rw [upd_same]; exact Option.some_ne_none _)
  have np : ∀ (k : Nat) a, α[k]? = some a → a ≠ p := fun k a h e => by
    have := w.ga k a h
    rw [e, upd_same] at this
    cases this
  refine ⟨w.len, w.inj, same_upd w.sub fp, fun k a h => ?_, w.apart, fun k a ob h1 h2 => ?_, fun b u hb => ?_, fun a h => ?_, fun k a h => ?_⟩
  · rw [upd_ne (np k a h)]; exact w.there k a h
  · exact (w.obj k a ob h1 h2).mono (List.prefix_refl _) (Same.refl F) (upd_ne (np k a h1))
  · by_cases e : b = p
    · rw [e, upd_same] at hb ⊢
      exact hb
    · rw [upd_ne e] at hb ⊢
      exact w.gs b u (by rw [upd_ne e]; exact hb)
  · by_cases e : a = p
    · rw [e]; exact fp
    · rw [upd_ne e] at h
      exact w.gf a (by rw [upd_ne e]; exact h)
  · have := w.ga k a h
    rw [upd_ne (np k a h)] at this ⊢
    exact this
theorem Wd.gfrz {γ : Hp} {α : List Addr} {F H : Hp} {μ : List Ob} {p : Addr} {o : HO} (w : Wd K (upd γ p o) α F H μ) (hp : γ p = none) : Wd K γ α (upd F p o) H μ := by
  have fp : F p = none := w.gf p (by rw [upd_same]; exact Option.some_ne_none _)
  have hh : H p = some o := w.gs p o upd_same
  have np : ∀ (k : Nat) a, α[k]? = some a → a ≠ p := fun k a h e => by
    have := w.ga k a h
    rw [e, upd_same] at this
    cases this
  refine ⟨w.len, w.inj, fun b u hb => ?_, w.there, fun k a ob h1 h2 h3 => ?_, fun k a ob h1 h2 => ?_, fun b u hb => ?_, fun a h => ?_, fun k a h => ?_⟩
  · by_cases e : b = p
    · rw [e, upd_same] at hb
      rw [e, hh]
      exact hb
    · rw [upd_ne e] at hb
      exact w.sub b u hb
  · rw [upd_ne (np k a h1)]
    exact w.apart k a ob h1 h2 h3
  · exact (w.obj k a ob h1 h2).mono (List.prefix_refl _) (same_new fp) rfl
  · have ne : b ≠ p := fun e => by rw [e, hp] at hb; cases hb
    exact w.gs b u (by rw [upd_ne ne]; exact hb)
  · have ne : a ≠ p := fun e => h (by rw [e]; exact hp)
    rw [upd_ne ne]
    exact w.gf a (by rw [upd_ne ne]; exact h)
  · have := w.ga k a h
    rw [upd_ne (np k a h)] at this
    exact this
/-- .. becomes an object of the store -/
theorem Wd.gobj {γ : Hp} {α : List Addr} {F H : Hp} {μ : List Ob} {p : Addr} {o : HO} {ob : Ob} (w : Wd K (upd γ p o) α F H μ) (hp : γ p = none) (h : ObIs K (α ++ [p]) F H p ob) : Wd K γ (α ++ [p]) F H (μ ++ [ob]) := by
  have fp : F p = none := w.gf p (by rw [upd_same]; exact Option.some_ne_none _)
  have hh : H p = some o := w.gs p o upd_same
  have np : ∀ (k : Nat) a, α[k]? = some a → a ≠ p := fun k a h e => by
    have := w.ga k a h
    rw [e, upd_same] at this
    cases this
  have spl : ∀ (k : Nat) a, (α ++ [p])[k]? = some a → α[k]? = some a ∨ (k = α.length ∧ a = p) := fun k a h1 => by
    by_cases hk : k < α.length
    · rw [List.getElem?_append_left hk] at h1
      exact .inl h1
    · have hl := (List.getElem?_eq_some_iff.mp h1).1
      rw [List.length_append, List.length_singleton] at hl
      have e : k = α.length := by omega
      subst e
      rw [List.getElem?_concat_length] at h1
      exact .inr ⟨rfl, (Option.some.inj h1).symm⟩
  refine ⟨by rw [List.length_append, List.length_append, w.len]; rfl, fun i j a h1 h2 => ?_, w.sub, fun k a h1 => ?_, fun k a ob' h1 h2 h3 => ?_, fun k a ob' h1 h2 => ?_, fun b u hb => ?_, fun a h1 => ?_, fun k a h1 => ?_⟩
  · rcases spl i a h1 with x | ⟨x, y⟩ <;> rcases spl j a h2 with z | ⟨z, u⟩
    · exact w.inj i j a x z
    · exact absurd u (np i a x)
    · exact absurd y (np j a z)
    · rw [x, z]
  · rcases spl k a h1 with x | ⟨x, y⟩
    · exact w.there k a x
    · rw [y, hh]
      exact Option.some_ne_none _
  · rcases spl k a h1 with x | ⟨x, y⟩
    · have hk := (List.getElem?_eq_some_iff.mp x).1
      rw [w.len] at hk
      rw [List.getElem?_append_left hk] at h2
      exact w.apart k a ob' x h2 h3
    · rw [y]; exact fp
  · rcases spl k a h1 with x | ⟨x, y⟩
    · have hk := (List.getElem?_eq_some_iff.mp x).1
      rw [w.len] at hk
      rw [List.getElem?_append_left hk] at h2
      exact (w.obj k a ob' x h2).mono (List.prefix_append _ _) (Same.refl F) rfl
    · rw [x, w.len, List.getElem?_concat_length] at h2
      cases h2
      rw [y]
      exact h
  · have ne : b ≠ p := fun e => by rw [e, hp] at hb; cases hb
    exact w.gs b u (by rw [upd_ne ne]; exact hb)
  · have ne : a ≠ p := fun e => h1 (by rw [e]; exact hp)
    exact w.gf a (by rw [upd_ne ne]; exact h1)
  · rcases spl k a h1 with x | ⟨x, y⟩
    · have := w.ga k a x
      rw [upd_ne (np k a x)] at this
      exact this
    · rw [y]; exact hp
theorem wipe_wipe (σ : St) (vs : List Nat) : L2.wipe (L2.wipe σ vs) vs = L2.wipe σ vs := by
  have comm : ∀ (vs : List Nat) (σ : St) (i : Nat), L2.wipe (σ.set i none) vs = (L2.wipe σ vs).set i none := by
    intro vs
    induction vs with
    | nil => intro σ i; rfl
    | cons j vs ih =>
      intro σ i
      show (L2.wipe (σ.set i none) vs).set j none = ((L2.wipe σ vs).set j none).set i none
      rw [ih]
      by_cases e : i = j
      · rw [e]
      · rw [List.set_comm _ _ e]
  induction vs generalizing σ with
  | nil => rfl
  | cons j vs ih =>
    show (L2.wipe ((L2.wipe σ vs).set j none) vs).set j none = (L2.wipe σ vs).set j none
    rw [comm, ih, List.set_set]
/-- a comprehension -/
theorem tD_lc {fi : RA} {t : Tg} {vs : List Nat} {ft : RT} {fe : RE} (hv : ∀ i ∈ t.slots, i ∈ vs) (σ : St) (H : Hp) (Q : VK) (h : tD K W (rLc fi t vs ft fe) σ H Q) : tLc (tDI K W fi) (t.rd K) (tDT K W0 ft) (tD K W0 fe) vs σ H Q := by
  obtain ⟨γ, α, F, μ, δ, w, s, q⟩ := h
  refine ⟨γ, α, F, μ, δ, w, s, ?_⟩
  unfold rLc at q
  cases hf : fi δ μ with
  | bad => rw [hf] at q; exact q
  | exc x μ1 => rw [hf] at q; exact q
  | ok ds μ1 =>
    rw [hf] at q
    intro α1 F1 H1 p1 e1 w1 J hJ Dl hD
    have q1 := Fin.up p1 e1 q
    have s1 := s.mono p1 e1
    rw [R.ok_bind] at q1
    have gD : γ Dl = none := w1.gs.free hD
    refine ⟨fun i m H => m = ds.length - i ∧ i ≤ ds.length ∧ ∃ α' F' μ' acc ys, Wd K (upd γ Dl (.lst ys)) α' F' H μ' ∧ SlIs K α' F' σ δ ∧ WalkD K α' F' J ds ∧ IsL K α' F' ys acc ∧
        Fin K γ α' F' ((compL t vs ft fe (ds.drop i) δ μ' acc).bind fun ys μ2 => .ok (.lst ys) μ2) (okD K Q) (fun c dd H' => W c dd σ H'),
      ⟨ds.length, by simp, Nat.zero_le _, α1, F1, μ1, [], [], w1.gnew hD, s1, hJ, .nil, by rw [List.drop_zero]; exact q1⟩, ?_⟩
    rintro i m H2 ⟨rfl, hi, α2, F2, μ2, acc, ys, w2, s2, hJ2, hl, q2⟩
    obtain ⟨j1, j2⟩ := hJ2 i _ α2 F2 H2 μ2 (List.prefix_refl _) (Same.refl F2) w2
    by_cases hlt : i < ds.length
    · obtain ⟨hgo, hy⟩ := j1 ds[i] (List.getElem?_eq_getElem hlt)
      rw [List.drop_eq_getElem_cons hlt] at q2
      unfold compL at q2
      right
      refine ⟨hgo, fun H' => i + 1 ≤ ds.length ∧ ∃ α' F' μ' acc ys, Wd K (upd γ Dl (.lst ys)) α' F' H' μ' ∧ SlIs K α' F' σ δ ∧ WalkD K α' F' J ds ∧ IsL K α' F' ys acc ∧
          Fin K γ α' F' ((compL t vs ft fe (ds.drop (i + 1)) δ μ' acc).bind fun ys μ2 => .ok (.lst ys) μ2) (okD K Q) (fun c dd H' => W c dd σ H'),
        fun H' n => ⟨ds.length - (i + 1), by omega, rfl, n.1, n.2⟩, fun x H3 y => ?_⟩
      obtain ⟨F3, e3, w3, hx⟩ := hy x H3 y
      have q3 := Fin.up (List.prefix_refl _) e3 q2
      have s3 := s2.mono (List.prefix_refl _) e3
      cases ht : t.set ds[i] (wipeD δ vs) with
      | none => rw [ht] at q3; exact q3.elim
      | some δ3 =>
        rw [ht] at q3
        refine Tg.go w3 (s3.wipe vs) hx ht fun σ4 s4 hw4 _ => ⟨?_, ?_⟩
        · rw [hw4 vs hv]
          exact wipe_wipe σ vs
        · refine ⟨_, α2, F3, μ2, δ3, w3, s4, ?_⟩
          dsimp only at q3
          cases hft : ft δ3 μ2 with
          | bad => rw [hft] at q3; exact q3.elim
          | exc x μ4 => rw [hft] at q3; exact q3.elim
          | ok b μ4 =>
            rw [hft] at q3
            intro α4 F4 H4 p4 e4 w4
            have q4 := Fin.up p4 e4 q3
            cases b with
            | false =>
              exact iteF ⟨hlt, α4, F4, μ4, acc, ys, w4, s3.mono p4 e4, hJ2.mono p4 (e3.trans e4), hl.mono p4 (e3.trans e4), q4⟩
            | true =>
              refine iteT ⟨_, α4, F4, μ4, δ3, w4, s4.mono p4 e4, ?_⟩
              dsimp only at q4
              cases hfe : fe δ3 μ4 with
              | bad => rw [hfe] at q4; exact q4.elim
              | exc x μ5 => rw [hfe] at q4; exact q4.elim
              | ok z μ5 =>
                rw [hfe] at q4
                intro α5 F5 H5 p5 e5 w5 v hvz
                have q5 := Fin.up p5 e5 q4
                dsimp only at q5
                by_cases hz : acc.length < 16777216
                · rw [if_pos hz] at q5
                  have hl5 := hl.mono (p4.trans p5) ((e3.trans e4).trans e5)
                  refine ⟨ys, w5.gs _ _ upd_same, by rw [hl5.length, sizeLine_eq]; exact hz, hlt, α5, F5, μ5, acc ++ [z], ys ++ [v], w5.gput gD, (s3.mono p4 e4).mono p5 e5, hJ2.mono (p4.trans p5) ((e3.trans e4).trans e5), hl5.append (.cons hvz .nil), q5⟩
                · rw [if_neg hz] at q5; exact q5.elim
    · have e : i = ds.length := by omega
      subst e
      rw [List.drop_length] at q2
      left
      refine ⟨j2 rfl, ?_⟩
      unfold compL at q2
      have fD : F2 Dl = none := w2.gf Dl (by rw [upd_same]; exact Option.some_ne_none _)
      have sn := same_new (o := .lst ys) fD
      exact q2 α2 _ H2 (List.prefix_refl _) sn (w2.gfrz gD) _ (.lst upd_same (hl.mono (List.prefix_refl _) sn))
end
end DL

/-! The data layer, g: comprehensions as rules, calls of the text's own defs, a def's contract by its body. -/
namespace DL
open PySem L2

/-- what a place in the code must have -/
structure Good (X : Cx) (W : WX) (k : Nat) : Prop where
  hr : Room k X.A
  calm : X.calm = true
  nd : X.N.Nodup
  tk : Takes X W
  po : PassesOwn (model X.prog X.w) X.A X.env X.xe
theorem Good.blk {X : Cx} {W : WX} {k : Nat} (g : Good X W k) (s : Shared) (H : Hp) (scope : Scope) (cenv : Env) (fp : List Addr) : Good (X.blk s H scope cenv fp) W0 k :=
  ⟨g.hr, g.calm, g.nd, takes0, PassesOwn.never⟩
theorem Good.mono {X : Cx} {W : WX} {k j : Nat} (g : Good X W k) (h : j ≤ k) : Good X W j := ⟨g.hr.mono h, g.calm, g.nd, g.tk, g.po⟩
theorem Good.hu {X : Cx} {W : WX} {k : Nat} (g : Good X W k) : X.A.units + 65 < cLine := by have := g.hr.un; omega

section
variable {X : Cx} {W : WX} {k : Nat}
theorem pd_lc {elt tg iter : Expr} {ifs : List Expr} {scope : Scope} {own : List (Str × Nat)} {pos : Pos} {fi : RA} {t : Tg} {ft : RT} {fe : RE} (g : Good X W k) (hi : PDI X W tg iter fi) (ok : BlkOk X.N X.env.scope scope own) (hv : ∀ i ∈ t.slots, i ∈ own.map (·.2))
    (hg : ∀ (s : Shared) (H : Hp) (C : Addr) (cl : List (Str × Addr)) (fp : List Addr), PDG (X.blk s H scope (compEnvC scope cl C X.env) fp) tg t)
    (ht : ∀ (s : Shared) (H : Hp) (C : Addr) (cl : List (Str × Addr)) (fp : List Addr), Good (X.blk s H scope (compEnvC scope cl C X.env) fp) W0 k → PDTs (X.blk s H scope (compEnvC scope cl C X.env) fp) W0 ifs ft)
    (he : ∀ (s : Shared) (H : Hp) (C : Addr) (cl : List (Str × Addr)) (fp : List Addr), Good (X.blk s H scope (compEnvC scope cl C X.env) fp) W0 k → PD (X.blk s H scope (compEnvC scope cl C X.env) fp) W0 elt fe)
    (hs : ∀ x, foldedSetIterable iter X.env x = pure x := by intro _; rfl) : PD X W (.ListComp elt [⟨tg, iter, ifs, 0⟩] scope pos) (rLc fi t (own.map (·.2)) ft fe) :=
  pe_weak (pe_lc g.calm g.nd hi ok hg (fun s H C cl fp => ht s H C cl fp (g.blk s H scope _ fp)) (fun s H C cl fp => he s H C cl fp (g.blk s H scope _ fp)) hs) (tD_lc hv)
theorem psd_setLc (i : Nat) {y : Str} {py spos : Pos} {elt tg iter : Expr} {ifs : List Expr} {scope : Scope} {own : List (Str × Nat)} {pos : Pos} {fi : RA} {t : Tg} {ft : RT} {fe : RE} (g : Good X W k)
    (hsw : swapsWith (.ListComp elt [⟨tg, iter, ifs, 0⟩] scope pos) (some (.Name y py)) spos.line X.env = pure true) (hi : PDI X W tg iter fi) (ok : BlkOk X.N X.env.scope scope own) (hv : ∀ i ∈ t.slots, i ∈ own.map (·.2))
    (hg : ∀ (s : Shared) (H : Hp) (C : Addr) (cl : List (Str × Addr)) (fp : List Addr), PDG (X.blk s H scope (compEnvC scope cl C X.env) fp) tg t)
    (ht : ∀ (s : Shared) (H : Hp) (C : Addr) (cl : List (Str × Addr)) (fp : List Addr), Good (X.blk s H scope (compEnvC scope cl C X.env) fp) W0 k → PDTs (X.blk s H scope (compEnvC scope cl C X.env) fp) W0 ifs ft)
    (he : ∀ (s : Shared) (H : Hp) (C : Addr) (cl : List (Str × Addr)) (fp : List Addr), Good (X.blk s H scope (compEnvC scope cl C X.env) fp) W0 k → PD (X.blk s H scope (compEnvC scope cl C X.env) fp) W0 elt fe)
    (hy : X.N[i]? = some y := by rfl) (hyl : X.env.scope.names.lookup y = some .local := by rfl)
    (hs : ∀ x, foldedSetIterable iter X.env x = pure x := by intro _; rfl) : PSD X W (.Assign [.Name y py] (.ListComp elt [⟨tg, iter, ifs, 0⟩] scope pos) spos) (rSet i (rLc fi t (own.map (·.2)) ft fe)) :=
  ps_weak (ps_setLc g.calm g.nd hy hyl hsw hi ok hg (fun s H C cl fp => ht s H C cl fp (g.blk s H scope _ fp)) (fun s H C cl fp => he s H C cl fp (g.blk s H scope _ fp)) hs) fun D σ H ⟨γ, α, F, μ, δ, w, s, q⟩ => by
    refine tD_lc (ft := ft) (fe := fe) hv σ H _ ?_
    exact tD_st w s q fun d μ1 α1 F1 H1 v p1 e1 w1 s1 hv q1 => q1.nx_ w1 (s1.set i hv)
end

/-! ### contracts -/
abbrev Ct := List D → List Ob → R D
def spD (K : PySem.W.Frag) (n : Nat) (ct : Ct) : Sp := fun vs H Q E => vs.length = n ∧ ∃ γ α F μ ds, Wd K γ α F H μ ∧ IsL K α F vs ds ∧ Fin K γ α F (ct ds μ) (okD K Q) E
/-- a def of the text that keeps a contract, by its name -/
structure Cal (P : Program) (w : World) (K : PySem.W.Frag) (mg : Str → Option Value) (base : Heap) (k : Nat) (x : Str) (n : Nat) (ct : Ct) : Prop where
  ex : ∃ (f : Addr) (fd : FuncData) (ps : List Str), ps.length = n ∧ FnOk P w K mg base (L2.CX P w) k f fd ps (spD K n ct) ∧ mg x = some (.ref f) ∧ PySem.W.keepIn K (.ref f) = true ∧ Binds K fd ps []
def rCall (n : Nat) (ct : Ct) (fs : RA) : RE := fun δ μ => (fs δ μ).bind fun ds μ1 => if ds.length = n then ct ds μ1 else .bad
section
variable {X : Cx} {W : WX} {k j n : Nat} {x : Str} {ct : Ct}
theorem pd_call {e : Expr} {es : List Expr} {fs : RA} {p pos : Pos} (c : Cal X.prog X.w X.K X.mg X.base k x n ct) (g : Good X W j) (ha : PDA X W (e :: es) fs) (hk : k ≤ j := by decide) (hg : Gl X x := by rfl) (hdb : (x == ("__debug__" : Str)) = false := by decide)
    (he : starEach (e :: es) X.env = (false, eval e X.env) :: starEach es X.env := by rfl) (hpl : (backTo pos (starEach es X.env)).any (·.1) = false := by rfl) : PD X W (.Call (.Name x p) (e :: es) [] pos) (rCall n ct fs) := by
  obtain ⟨f, fd, ps, hn, F, hm, kp, hb⟩ := c.ex
  refine pe_weak (pe_callS F (g.hr.mono hk) hg hm kp hb (fun σ => passAt g.tk σ) ha hdb he hpl) fun σ H Q ⟨γ, α, F, μ, δ, w, s, q⟩ => ?_
  refine tDA_go w s q fun ds μ1 α1 F1 H1 vs p1 e1 w1 s1 hv q1 => ?_
  by_cases hl : ds.length = n
  · rw [if_pos hl] at q1
    exact ⟨by rw [hv.length]; exact hl, γ, α1, F1, μ1, ds, w1, hv, q1⟩
  · rw [if_neg hl] at q1; exact q1.elim
def noX (r : R D) : R D := match r with
  | .ok d μ => .ok d μ
  | _ => .bad
theorem pd_call0 {p pos : Pos} (c : Cal X.prog X.w X.K X.mg X.base k x 0 ct) (g : Good X W j) (hk : k ≤ j := by decide) (hg : Gl X x := by rfl) (hdb : (x == ("__debug__" : Str)) = false := by decide) : PD X W (.Call (.Name x p) [] [] pos) (fun _ μ => noX (ct [] μ)) := by
  obtain ⟨f, fd, ps, hn', F, hm, kp, hb⟩ := c.ex
  refine pe_weak (pe_call0 F (g.hr.mono hk) hg hm kp hb .nil passL hdb) fun σ H Q ⟨γ, α, F, μ, δ, w, s, q⟩ => ?_
  refine ⟨rfl, γ, α, F, μ, [], w, .nil, ?_⟩
  replace q : Fin X.K γ α F (noX (ct [] μ)) (okD X.K Q) (fun c dd H' => W c dd σ H') := q
  cases hc : ct [] μ with
  | ok d μ1 => rw [hc] at q; exact q
  | exc x μ1 => rw [hc] at q; exact q.elim
  | bad => rw [hc] at q; exact q
end

/-! ### a contract by its body -/
mutual
theorem sc_le {n m : Nat} (h : n ≤ m) : ∀ d : D, d.sc n = true → d.sc m = true
  | .tup xs, e => by rw [D.sc] at e ⊢; exact scL_le h xs e
  | .lst xs, e => by rw [D.sc] at e ⊢; exact scL_le h xs e
  | .frl xs, e => by rw [D.sc] at e ⊢; exact scL_le h xs e
  | .dct _ xs, e => by rw [D.sc] at e ⊢; exact scL_le h xs e
  | .ins _ _ xs, e => by rw [D.sc] at e ⊢; exact scL_le h xs e
  | .loc k, e => by
    rw [D.sc] at e ⊢
    have := of_decide_eq_true e
    exact decide_eq_true (by omega)
  | .non, _ => by simp [D.sc]
  | .bl _, _ => by simp [D.sc]
  | .int _, _ => by simp [D.sc]
  | .str _, _ => by simp [D.sc]
  | .vv _, _ => by simp [D.sc]
theorem scL_le {n m : Nat} (h : n ≤ m) : ∀ xs : List D, scL n xs = true → scL m xs = true
  | [], _ => by simp [scL]
  | x :: xs, e => by
    rw [scL, Bool.and_eq_true] at e ⊢
    exact ⟨sc_le h x e.1, scL_le h xs e.2⟩
end
theorem obsc_le {n m : Nat} (h : n ≤ m) (o : Ob) (e : o.sc n = true) : o.sc m = true := by
  cases o with
  | lst xs => exact scL_le h xs e
  | dct _ xs => exact scL_le h xs e
  | ins _ _ xs => exact scL_le h xs e
  | dead => rfl
/-- the store behind a def: as it stands, or without what was made on the way -/
def Keep (μ μ1 : List Ob) (ds : List D) (μe : List Ob) : Prop :=
  μe = μ1 ∨ ((∃ j, μe = μ1 ++ j) ∧ μ.length ≤ μ1.length ∧ scL μ1.length ds = true ∧ ∀ (k : Nat) o, μ1[k]? = some o → μ[k]? = some o ∨ o.sc μ1.length = true)
theorem Keep.pure {μ : List Ob} {d : D} {j : List Ob} (h : d.sc 0 = true) : Keep μ μ [d] (μ ++ j) :=
  .inr ⟨⟨j, rfl⟩, Nat.le_refl _, by rw [scL, sc_le (Nat.zero_le _) d h]; rfl, fun _ _ h => .inl h⟩
def Cov (μ : List Ob) (c : R D) (r : SO) : Prop := match c with
  | .bad => True
  | .ok d μ1 => match r with
    | .rt d' μe => d = d' ∧ Keep μ μ1 [d] μe
    | .nx _ μe => d = .non ∧ Keep μ μ1 [] μe
    | _ => False
  | .exc x μ1 => match r with
    | .exc x' _ μe => x = x' ∧ Keep μ μ1 x.xs μe
    | _ => False
section
variable {K : PySem.W.Frag} {γ : Hp} {α α' : List Addr} {F F' H H' : Hp} {μ μ1 μe : List Ob}
theorem Keep.go {ds : List D} (h : Keep μ μ1 ds μe) (w : Wd K γ α F H μ) (p : α <+: α') (w' : Wd K γ α' F' H' μe) : ∃ α'', α <+: α'' ∧ Wd K γ α'' F' H' μ1 ∧ ∀ vs, IsL K α' F' vs ds → IsL K α'' F' vs ds := by
  rcases h with h | ⟨⟨j, h⟩, hl, hs, ho⟩
  · subst h
    exact ⟨α', p, w', fun _ q => q⟩
  · subst h
    refine ⟨α'.take μ1.length, ?_, ?_, fun vs q => q.cut hs⟩
    · obtain ⟨t, rfl⟩ := p
      have hn : α.length ≤ μ1.length := by rw [w.len]; exact hl
      rw [List.take_append]
      rw [List.take_of_length_le hn]
      exact List.prefix_append _ _
    · have := w'.cut (n := μ1.length) fun k o hk ho' => by
        rw [List.getElem?_append_left hk] at ho'
        rcases ho k o ho' with q | q
        · obtain ⟨a, ha⟩ : ∃ a, α[k]? = some a := by
            have hlt := (List.getElem?_eq_some_iff.mp q).1
            rw [← w.len] at hlt
            exact ⟨α[k], List.getElem?_eq_getElem hlt⟩
          have := (w.obj k a o ha q).scoped
          exact obsc_le (by rw [w.len]; exact hl) o this
        · exact q
      rw [List.take_left' rfl] at this
      exact this
theorem fn_cal {P : Program} {w : World} {mg : Str → Option Value} {base : Heap} {x qual : Str} {st : Stmt} {f : Addr} {fd : FuncData} {N ps : List Str} {k : Nat} {ct : Ct} {fb : RS} (Fu : Fun K x qual st f fd) (S : FnScope N ps (defScope st)) (hnp : ps.length ≤ N.length := by decide)
    (body : ∀ (cdv : Value) (A : Around) (outer : List Env) (s : Shared) (H : Hp) (E : XK), Good (cxOf (L2.CX P w) P w K mg base N qual (defScope st) f cdv A outer s H E) (fun c d _ H' => E c d H') k → PSDs (cxOf (L2.CX P w) P w K mg base N qual (defScope st) f cdv A outer s H E) (fun c d _ H' => E c d H') (defBody st) fb)
    (cov : ∀ ds μ, ds.length = ps.length → Cov μ (ct ds μ) (fb (ds.map some ++ List.replicate (N.length - ps.length) none) μ)) : FnOk P w K mg base (L2.CX P w) (k + 1) f fd ps (spD K ps.length ct) := by
  refine Fu.okX S (fun vs H Q E h => h.1) fun cdv A outer s H vs Q E hr h => ?_
  refine ⟨_, body cdv A outer s H E ⟨hr, rfl, S.nd, takes_of rfl rfl rfl rfl, passes_of rfl⟩, ?_⟩
  obtain ⟨hl, γ, α, F, μ, ds, w0, hds, q⟩ := h
  have hdl : ds.length = ps.length := by rw [← hds.length]; exact hl
  have s0 : SlIs K α F (L2.start N vs) (ds.map some ++ List.replicate (N.length - ps.length) none) := by
    unfold L2.start
    rw [hl]
    refine ⟨by simp [hds.length], fun i d e => ?_⟩
    by_cases hi : i < ds.length
    · rw [List.getElem?_append_left (by rw [List.length_map]; exact hi)] at e
      rw [List.getElem?_map, List.getElem?_eq_getElem hi] at e
      have e' : ds[i] = d := by simpa using e
      obtain ⟨v, h1, h2⟩ := hds.get (i := i) (d := d) (by rw [List.getElem?_eq_getElem hi, e'])
      have hi2 : i < vs.length := by rw [hds.length]; exact hi
      exact ⟨v, by rw [List.getElem?_append_left (by rw [List.length_map]; exact hi2), List.getElem?_map, h1]; rfl, h2⟩
    · rw [List.getElem?_append_right (by rw [List.length_map]; omega), List.getElem?_replicate] at e
      split at e <;> cases e
  refine ⟨γ, α, F, μ, _, w0, s0, ?_⟩
  have cv := cov ds μ hdl
  cases hc : ct ds μ with
  | bad => rw [hc] at q; exact q.elim
  | ok d μ1 =>
    rw [hc] at q cv
    cases hb : fb (ds.map some ++ List.replicate (N.length - ps.length) none) μ with
    | rt d' μe =>
      rw [hb] at cv
      obtain ⟨rfl, kp⟩ := cv
      intro α' F' H' v p e w' hv
      obtain ⟨α'', p2, w2, k2⟩ := kp.go w0 p w'
      have := k2 [v] (.cons hv .nil)
      cases this with
      | cons hv2 _ => exact q α'' F' H' p2 e w2 v hv2
    | nx δ' μe =>
      rw [hb] at cv
      obtain ⟨rfl, kp⟩ := cv
      intro α' F' H' σ' p e w' s'
      obtain ⟨α'', p2, w2, k2⟩ := kp.go w0 p w'
      exact q α'' F' H' p2 e w2 .non .non
    | _ => rw [hb] at cv; exact cv.elim
  | exc x μ1 =>
    rw [hc] at q cv
    cases hb : fb (ds.map some ++ List.replicate (N.length - ps.length) none) μ with
    | exc x' δ' μe =>
      rw [hb] at cv
      obtain ⟨rfl, kp⟩ := cv
      intro α' F' H' σ' c dd p e w' s' hx
      obtain ⟨α'', p2, w2, k2⟩ := kp.go w0 p w'
      refine q α'' F' H' c dd p2 e w2 ?_
      obtain ⟨h1, h2 | ⟨d, fv, h3, h4, h5, h6⟩⟩ := hx
      · exact ⟨h1, .inl h2⟩
      · exact ⟨h1, .inr ⟨d, fv, h3, h4, h5, k2 _ h6⟩⟩
    | _ => rw [hb] at cv; exact cv.elim
end
end DL

/-! The data layer, h: built-ins by name. -/
namespace DL
open PySem L2

def Opn (K : PySem.W.Frag) (r : List V → Hp → VK → Prop) (g : List D → List Ob → R D) : Prop :=
  ∀ γ α F H μ vs ds Q E, Wd K γ α F H μ → IsL K α F vs ds → Fin K γ α F (g ds μ) (okD K Q) E → r vs H Q
def rCB (g : List D → List Ob → R D) (fs : RA) : RE := fun δ μ => (fs δ μ).bind g
section
variable {X : Cx} {W : WX} {e : Expr} {es : List Expr} {fs : RA} {pos p : Pos} {r : List V → Hp → VK → Prop} {g : List D → List Ob → R D} {x : Str} {id T : String}
theorem tD_cb {K : PySem.W.Frag} (h : Opn K r g) (σ : St) (H : Hp) (Q : VK) : tD K W (rCB g fs) σ H Q → tCB r (tDA K W fs) σ H Q := fun ⟨γ, α, F, μ, δ, w, s, q⟩ =>
  tDA_go w s q fun ds μ1 α1 F1 H1 vs p1 e1 w1 s1 hv q1 => h γ α1 F1 H1 μ1 vs ds Q _ w1 hv q1
theorem pd_callB (hc : CallR X (.builtin id) r) (h : Opn X.K r g) (hv : bootBuiltins x = some (.builtin id)) (hm : X.mg x = none) (ha : PDA X W (e :: es) fs) (hg : Gl X x := by rfl) (hn : x ≠ "__name__" := by decide) (hdb : (x == ("__debug__" : Str)) = false := by decide)
    (he : starEach (e :: es) X.env = (false, eval e X.env) :: starEach es X.env := by rfl) (hpl : (backTo pos (starEach es X.env)).any (·.1) = false := by rfl) : PD X W (.Call (.Name x p) (e :: es) [] pos) (rCB g fs) :=
  pe_weak (pe_callB hc hg hm hv ha hn hdb he hpl) (tD_cb h)
theorem pd_callT (hc : CallR X (.type T) r) (h : Opn X.K r g) (hv : bootBuiltins x = some (.type T)) (hm : X.mg x = none) (ha : PDA X W (e :: es) fs) (hg : Gl X x := by rfl) (hn : x ≠ "__name__" := by decide) (hdb : (x == ("__debug__" : Str)) = false := by decide)
    (he : starEach (e :: es) X.env = (false, eval e X.env) :: starEach es X.env := by rfl) (hpl : (backTo pos (starEach es X.env)).any (·.1) = false := by rfl) : PD X W (.Call (.Name x p) (e :: es) [] pos) (rCB g fs) :=
  pe_weak (pe_callTy hc hg hm hv ha hn hdb he hpl) (tD_cb h)
end
section
variable {K : PySem.W.Frag} {γ : Hp} {α : List Addr} {F H : Hp} {μ : List Ob} {Q : VK} {E : XK}
theorem IsL.one {vs : List V} {d : D} (h : IsL K α F vs [d]) : ∃ v, vs = [v] ∧ Is K α F v d := by
  cases h with
  | cons h t => cases t; exact ⟨_, rfl, h⟩
theorem IsL.two {vs : List V} {d e : D} (h : IsL K α F vs [d, e]) : ∃ v u, vs = [v, u] ∧ Is K α F v d ∧ Is K α F u e := by
  cases h with
  | cons h t =>
    obtain ⟨u, rfl, h2⟩ := t.one
    exact ⟨_, _, rfl, h, h2⟩
theorem fin_ok {d : D} {v : V} (w : Wd K γ α F H μ) (hv : Is K α F v d) (q : Fin K γ α F (.ok d μ) (okD K Q) E) : Q v H := q α F H (List.prefix_refl _) (Same.refl F) w v hv
/-- a thing is laid and never changed -/
theorem fin_lay {d : D} {p : Addr} {o : HO} {v : V} (w : Wd K γ α F H μ) (hp : H p = none) (hv : Is K α (upd F p o) v d) (q : Fin K γ α F (.ok d μ) (okD K Q) E) : Q v (upd H p o) :=
  q α _ _ (List.prefix_refl _) (same_new (w.sub.free hp)) (w.lay hp) v hv

/-! ### len -/
def lenD : List D → List Ob → R D := fun ds μ => match ds with
  | [d] => match d.view μ with
    | .str z => if z.length ≤ 16777216 then .ok (.int (z.length : Nat)) μ else .bad
    | .lst xs => .ok (.int (xs.length : Nat)) μ
    | .frl xs => .ok (.int (xs.length : Nat)) μ
    | .tup xs => .ok (.int (xs.length : Nat)) μ
    | .dct _ xs => .ok (.int (xs.length : Nat)) μ
    | _ => .bad
  | _ => .bad
def rLenA (K : PySem.W.Frag) : List V → Hp → VK → Prop := fun xs H Q => (∃ x n, xs = [x] ∧ LenV K x H n ∧ Q (.int n) H) ∨ ∃ a kvs, xs = [V.ref a] ∧ RdD H a kvs ∧ Q (.int kvs.length) H
theorem call_lenA {X : Cx} : CallR X (.builtin "len") (rLenA X.K) := CallR.or call_len call_lenK
theorem opn_len : Opn K (rLenA K) lenD := fun γ α F H μ vs ds Q E w hv q => by
  unfold lenD at q
  match ds, hv, q with
  | [], _, q => exact q.elim
  | _ :: _ :: _, _, q => exact q.elim
  | [d], hv, q =>
    obtain ⟨v, rfl, h⟩ := hv.one
    have vw := w.view h
    simp only at q
    cases hd : d.view μ with
    | str z =>
      rw [hd] at q vw
      have := Is.toStr (K := K) vw
      subst this
      simp only at q
      split at q
      · exact .inl ⟨_, _, rfl, ⟨by rw [sizeLine_eq]; assumption, rfl⟩, fin_ok w (.int _) q⟩
      · exact q.elim
    | lst xs =>
      rw [hd] at q vw
      obtain ⟨a, us, rfl, ha, l⟩ := vw
      exact .inl ⟨_, _, rfl, .inl ⟨us, .inl (.inl ha), rfl⟩, by rw [l.length]; exact fin_ok w (.int _) q⟩
    | frl xs =>
      rw [hd] at q vw
      obtain ⟨a, us, rfl, ha, l⟩ := vw
      exact .inl ⟨_, _, rfl, .inl ⟨us, ha, rfl⟩, by rw [l.length]; exact fin_ok w (.int _) q⟩
    | tup xs =>
      rw [hd] at q vw
      obtain ⟨a, us, rfl, ha, l⟩ := vw
      exact .inl ⟨_, _, rfl, .inr ⟨us, ha, rfl⟩, by rw [l.length]; exact fin_ok w (.int _) q⟩
    | dct ks xs =>
      rw [hd] at q vw
      obtain ⟨a, kvs, rfl, ha, _, l⟩ := vw
      have e := l.length
      rw [List.length_map] at e
      exact .inr ⟨a, kvs, rfl, ha, by rw [e]; exact fin_ok w (.int _) q⟩
    | _ => rw [hd] at q; exact q.elim

/-! ### isinstance -/
def D.tyS : D → Option String
  | .non => some "NoneType"
  | .bl _ => some "bool"
  | .int _ => some "int"
  | .str _ => some "str"
  | .tup _ => some "tuple"
  | .lst _ => some "list"
  | .dct _ _ => some "dict"
  | _ => none
/-- isinstance, by what a value's look says -/
def isiD (c : V) (q : D → Option Bool) : List D → List Ob → R D := fun ds μ => match ds with
  | [d, .vv u] => if u = c then (match q (d.view μ) with
    | some b => .ok (.bl b) μ
    | none => .bad) else .bad
  | _ => .bad
def IsiQ (K : PySem.W.Frag) (c : V) (q : D → Option Bool) : Prop := ∀ α F H v d b, Vw K α F H v d → q d = some b → ∃ t u, ClsV c u ∧ TyX K H v t ∧ PySem.W.kitOne K t u = some b
theorem opn_isi {c : V} {q : D → Option Bool} (hq : IsiQ K c q) : Opn K (rIsi K) (isiD c q) := fun γ α F H μ vs ds Q E w hv h => by
  unfold isiD at h
  split at h
  · rename_i d u
    obtain ⟨v, x, rfl, h1, h2⟩ := hv.two
    have e := Is.toVv h2
    subst e
    split at h
    · rename_i hu
      subst hu
      cases hd : q (d.view μ) with
      | none => rw [hd] at h; exact h.elim
      | some b =>
        rw [hd] at h
        obtain ⟨t, u, k1, k2, k3⟩ := hq α F H v _ b (w.view h1) hd
        exact ⟨v, _, t, u, b, rfl, k1, k2, k3, fin_ok w (.bl b) h⟩
    · exact h.elim
  · exact h.elim
theorem tyx_tup {a : Addr} {xs : List V} (h : SqT K H a xs) : TyX K H (.ref a) (.type "tuple") := by
  rcases h with (h | ⟨o, h⟩) | ⟨o, its, n, h1, h2, _⟩
  · exact .base (.tup h)
  · exact .fTuple h
  · exact .kTuple h1 h2
theorem tyx_of {v : V} {d : D} {T : String} (h : Vw K α F H v d) (e : d.tyS = some T) : TyX K H v (.type T) := by
  cases d with
  | non => cases e; cases Is.toNon (K := K) h; exact .base .non
  | bl b => cases e; cases Is.toBl (K := K) h; exact .base (.bl b)
  | int b => cases e; cases Is.toInt (K := K) h; exact .base (.int b)
  | str b => cases e; cases Is.toStr (K := K) h; exact .base (.str b)
  | tup b => cases e; obtain ⟨a, us, rfl, ha, l⟩ := h; exact tyx_tup ha
  | lst b => cases e; obtain ⟨a, us, rfl, ha, l⟩ := h; exact .base (.lst ha)
  | dct ks b =>
    cases e
    obtain ⟨a, us, rfl, ha, l⟩ := h
    rcases ha with ha | ⟨o, ha⟩
    · exact .base (.dK ha)
    · exact .fDict ha
  | _ => cases e
/-- against a built-in type -/
def isT (T : String) (d : D) : Option Bool := match d.tyS with
  | some S => kitB S T
  | none => none
theorem isiQ_ty {T : String} : IsiQ K (.ty T) (isT T) := fun α F H v d b h e => by
  unfold isT at e
  cases hs : d.tyS with
  | none => rw [hs] at e; cases e
  | some S =>
    rw [hs] at e
    exact ⟨_, _, .ty T, tyx_of h hs, kit_ty e⟩

/-! ### int, str -/
def intD : List D → List Ob → R D := fun ds μ => match ds with
  | [.int i] => .ok (.int i) μ
  | [.bl k] => .ok (.int (if k then 1 else 0)) μ
  | [.str a] => match PySem.intText? a with
    | some n => if a.length ≤ 640 then .ok (.int n) μ else .bad
    | none => .bad
  | _ => .bad
abbrev rIntA : List V → Hp → VK → Prop := fun xs H Q => ((∃ i, xs = [.int i] ∧ Q (.int i) H) ∨ ∃ k, xs = [.bl k] ∧ Q (.int (if k then 1 else 0)) H) ∨ (∃ a n, xs = [.str a] ∧ PySem.intText? a = some n ∧ a.length ≤ 640 ∧ Q (.int n) H)
theorem call_intA {X : Cx} : CallR X (.type "int") rIntA := CallR.or call_int1 call_int_str
theorem opn_int : Opn K rIntA intD := fun γ α F H μ vs ds Q E w hv q => by
  unfold intD at q
  split at q
  · rename_i i
    obtain ⟨v, rfl, h⟩ := hv.one
    cases h
    exact .inl (.inl ⟨_, rfl, fin_ok w (.int _) q⟩)
  · obtain ⟨v, rfl, h⟩ := hv.one
    cases h
    exact .inl (.inr ⟨_, rfl, fin_ok w (.int _) q⟩)
  · obtain ⟨v, rfl, h⟩ := hv.one
    cases h
    split at q
    · rename_i n hn
      split at q
      · rename_i hl
        exact .inr ⟨_, n, rfl, hn, hl, fin_ok w (.int _) q⟩
      · exact q.elim
    · exact q.elim
  · exact q.elim
def strD : List D → List Ob → R D := fun ds μ => match ds with
  | [.int i] => if i.natAbs.log2 < 1920 then .ok (.str (toString i)) μ else .bad
  | [.str a] => .ok (.str a) μ
  | _ => .bad
abbrev rStrA : List V → Hp → VK → Prop := fun xs H Q => (∃ i : Int, xs = [.int i] ∧ i.natAbs.log2 < 1920 ∧ Q (.str (toString i)) H) ∨ ∃ a, xs = [.str a] ∧ Q (.str a) H
theorem call_strA {X : Cx} : CallR X (.type "str") rStrA := CallR.or call_str_int SkE.call_str_str
theorem opn_str : Opn K rStrA strD := fun γ α F H μ vs ds Q E w hv q => by
  unfold strD at q
  split at q
  · obtain ⟨v, rfl, h⟩ := hv.one
    cases h
    split at q
    · exact .inl ⟨_, rfl, by assumption, fin_ok w (.str _) q⟩
    · exact q.elim
  · obtain ⟨v, rfl, h⟩ := hv.one
    cases h
    exact .inr ⟨_, rfl, fin_ok w (.str _) q⟩
  · exact q.elim

/-! ### list, tuple -/
/-- what list(..) and tuple(..) take out -/
def elsD : D → Option (List D)
  | .lst xs => some xs
  | .frl xs => some xs
  | .tup xs => some xs
  | .dct ks _ => some (ks.map Key.d)
  | _ => none
def listD (m : Bool) : List D → List Ob → R D := fun ds μ => match ds with
  | [d] => match elsD (d.view μ) with
    | some xs => if m then .ok (.loc μ.length) (μ ++ [.lst xs]) else .ok (.lst xs) μ
    | none => .bad
  | _ => .bad
def rListA (K : PySem.W.Frag) : List V → Hp → VK → Prop := fun xs H Q => (∃ p ys, xs = [.ref p] ∧ (SqL K H p ys ∨ SqT K H p ys) ∧ ∀ l, H l = none → Q (.ref l) (upd H l (.lst ys))) ∨
  (∃ (a : Addr) (kvs : List (Key × V)), xs = [.ref a] ∧ RdD H a kvs ∧ ∀ p, H p = none → Q (.ref p) (upd H p (.lst (kvs.map fun kv => kV kv.1))))
theorem call_listA {X : Cx} (hc : X.calm = true) : CallR X (.type "list") (rListA X.K) := CallR.or call_list_of (call_listK hc)
theorem keys_is : ∀ (ks : List Key), IsL K α F (ks.map kV) (ks.map Key.d)
  | [] => .nil
  | k :: ks => .cons key_is (keys_is ks)
theorem els_of {v : V} {d : D} {xs : List D} (h : Vw K α F H v d) (e : elsD d = some xs) : (∃ p ys, v = .ref p ∧ (SqL K H p ys ∨ SqT K H p ys) ∧ IsL K α F ys xs) ∨ (∃ a kvs, v = .ref a ∧ RdD H a kvs ∧ IsL K α F (kvs.map fun kv => kV kv.1) xs) := by
  cases d with
  | lst ys => cases e; obtain ⟨a, us, rfl, ha, l⟩ := h; exact .inl ⟨a, us, rfl, .inl (.inl (.inl ha)), l⟩
  | frl ys => cases e; obtain ⟨a, us, rfl, ha, l⟩ := h; exact .inl ⟨a, us, rfl, .inl ha, l⟩
  | tup ys => cases e; obtain ⟨a, us, rfl, ha, l⟩ := h; exact .inl ⟨a, us, rfl, .inr ha, l⟩
  | dct ks ys =>
    cases e
    obtain ⟨a, kvs, rfl, ha, rfl, l⟩ := h
    refine .inr ⟨a, kvs, rfl, ha, ?_⟩
    have := keys_is (K := K) (α := α) (F := F) (kvs.map (·.1))
    rw [List.map_map] at this
    exact this
  | _ => cases e
theorem fin_new {xs : List D} {ys : List V} {m : Bool} {l : Addr} (w : Wd K γ α F H μ) (hl : H l = none) (h : IsL K α F ys xs) (q : Fin K γ α F (if m then .ok (.loc μ.length) (μ ++ [.lst xs]) else .ok (.lst xs) μ) (okD K Q) E) : Q (.ref l) (upd H l (.lst ys)) := by
  cases m with
  | true => exact q (α ++ [l]) F _ (List.prefix_append _ _) (Same.refl F) (w.newLst hl h) _ (.loc (w.newAt l))
  | false => exact fin_lay w hl (.lst upd_same (h.mono (List.prefix_refl _) (same_new (w.sub.free hl)))) q
theorem opn_list (m : Bool) : Opn K (rListA K) (listD m) := fun γ α F H μ vs ds Q E w hv q => by
  unfold listD at q
  match ds, hv, q with
  | [], _, q => exact q.elim
  | _ :: _ :: _, _, q => exact q.elim
  | [d], hv, q =>
    obtain ⟨v, rfl, h⟩ := hv.one
    simp only at q
    cases he : elsD (d.view μ) with
    | none => rw [he] at q; exact q.elim
    | some xs =>
      rw [he] at q
      simp only at q
      rcases els_of (w.view h) he with ⟨p, ys, rfl, hs, l⟩ | ⟨a, kvs, rfl, hs, l⟩
      · exact .inl ⟨p, ys, rfl, hs, fun l' hl => fin_new w hl l q⟩
      · exact .inr ⟨a, kvs, rfl, hs, fun l' hl => fin_new w hl l q⟩
def tupD : List D → List Ob → R D := fun ds μ => match ds with
  | [d] => match d.view μ with
    | .lst xs => .ok (.tup xs) μ
    | .tup xs => .ok (.tup xs) μ
    | _ => .bad
  | _ => .bad
def rTupA (K : PySem.W.Frag) : List V → Hp → VK → Prop := (fun xs H Q => ∃ p ys, xs = [.ref p] ∧ ((SqL K H p ys ∧ ∀ l, H l = none → Q (.ref l) (upd H l (.tup ys))) ∨ (SqT K H p ys ∧ Q (.ref p) H)))
theorem opn_tup : Opn K (rTupA K) tupD := fun γ α F H μ vs ds Q E w hv q => by
  unfold tupD at q
  match ds, hv, q with
  | [], _, q => exact q.elim
  | _ :: _ :: _, _, q => exact q.elim
  | [d], hv, q =>
    obtain ⟨v, rfl, h⟩ := hv.one
    have vw := w.view h
    simp only at q
    cases hd : d.view μ with
    | lst xs =>
      rw [hd] at q vw
      obtain ⟨a, us, rfl, ha, l⟩ := vw
      exact ⟨a, us, rfl, .inl ⟨.inl (.inl ha), fun p hp => fin_lay w hp (.tup (.inl (.inl upd_same)) (l.mono (List.prefix_refl _) (same_new (w.sub.free hp)))) q⟩⟩
    | tup xs =>
      rw [hd] at q vw
      have e := view_tup hd
      subst e
      obtain ⟨a, us, rfl, ha, l⟩ := vw
      exact ⟨a, us, rfl, .inr ⟨ha, fin_ok w h q⟩⟩
    | _ => rw [hd] at q; exact q.elim

/-! ### max, min, all, any -/
def max2D : List D → List Ob → R D := fun ds μ => match ds with
  | [.int i, .int j] => .ok (.int (if j > i then j else i)) μ
  | _ => .bad
theorem opn_max2 : Opn K (fun xs H Q => ∃ i j, xs = [.int i, .int j] ∧ Q (.int (if j > i then j else i)) H) max2D := fun γ α F H μ vs ds Q E w hv q => by
  unfold max2D at q
  split at q
  · obtain ⟨v, u, rfl, h1, h2⟩ := hv.two
    cases h1; cases h2
    exact ⟨_, _, rfl, fin_ok w (.int _) q⟩
  · exact q.elim
def blsD : List D → Option (List Bool)
  | [] => some []
  | .bl b :: r => (blsD r).map (b :: ·)
  | _ => none
theorem bls_is : ∀ {xs : List D} {bs : List Bool} {vs : List V}, blsD xs = some bs → IsL K α F vs xs → vs = bs.map V.bl
  | [], bs, vs, e, h => by cases e; cases h; rfl
  | d :: r, bs, vs, e, h => by
    cases d with
    | bl b =>
      rw [blsD] at e
      cases hr : blsD r with
      | none => rw [hr] at e; cases e
      | some cs =>
        rw [hr] at e
        cases e
        cases h with
        | cons h t => cases h; rw [bls_is hr t]; rfl
    | _ => cases e
def allD (any : Bool) : List D → List Ob → R D := fun ds μ => match ds with
  | [d] => match elsD (d.view μ), d.view μ with
    | some xs, .lst _ => match blsD xs with
      | some bs => .ok (.bl (if any then bs.any id else bs.all id)) μ
      | none => .bad
    | _, _ => .bad
  | _ => .bad
theorem opn_all0 {any : Bool} {ds : List D} {vs : List V} (w : Wd K γ α F H μ) (hv : IsL K α F vs ds) (q : Fin K γ α F (allD any ds μ) (okD K Q) E) :
    ∃ (a : Addr) (bs : List Bool), vs = [V.ref a] ∧ SqL K H a (bs.map V.bl) ∧ Q (.bl (if any then bs.any id else bs.all id)) H := by
  unfold allD at q
  match ds, hv, q with
  | [], _, q => exact q.elim
  | _ :: _ :: _, _, q => exact q.elim
  | [d], hv, q =>
    obtain ⟨v, rfl, h⟩ := hv.one
    have vw := w.view h
    simp only at q
    cases hd : d.view μ with
    | lst xs =>
      rw [hd] at q vw
      obtain ⟨a, us, rfl, ha, l⟩ := vw
      simp only [elsD] at q
      cases hb : blsD xs with
      | none => rw [hb] at q; exact q.elim
      | some bs =>
        rw [hb] at q
        have := bls_is hb l
        subst this
        exact ⟨a, bs, rfl, .inl (.inl ha), fin_ok w (.bl _) q⟩
    | _ => rw [hd] at q; simp only [elsD] at q; exact q.elim
theorem opn_all : Opn K (rAll K) (allD false) := fun γ α F H μ vs ds Q E w hv q => opn_all0 w hv q
theorem opn_any : Opn K (rAny K) (allD true) := fun γ α F H μ vs ds Q E w hv q => opn_all0 w hv q
end
end DL

/-! The data layer, i: stores, methods of lists and texts, dicts, own objects. -/
namespace DL
open PySem L2

/-! ### a store into a thing -/
def hasK (ks : List Key) (k : Key) : Bool := ks.any fun j => decide (j = k)
def putKs (ks : List Key) (k : Key) : List Key := if hasK ks k then ks else ks ++ [k]
def putXs (ks : List Key) (xs : List D) (k : Key) (d : D) : List D := if hasK ks k then List.zipWith (fun k' x => if k' = k then d else x) ks xs else xs ++ [d]
def storeD (o i d : D) (μ : List Ob) : R Unit := match o with
  | .loc k => match μ[k]? with
    | some (.lst xs) => match i with
      | .int z => match ixN xs.length z with
        | some j => .ok () (μ.set k (.lst (xs.set j d)))
        | none => .bad
      | _ => .bad
    | some (.dct ks xs) => match i.key with
      | some key => if ks.length < 16777216 then .ok () (μ.set k (.dct (putKs ks key) (putXs ks xs key d))) else .bad
      | none => .bad
    | _ => .bad
  | _ => .bad
section
variable {K : PySem.W.Frag} {γ : Hp} {α : List Addr} {F H : Hp} {μ : List Ob} {σ : St} {δ : Sl} {W : WX} {Q : VK} {E : XK}
theorem any_con {kvs : List (Key × V)} {k : Key} : (kvs.any fun kv => decide (kv.1 = k)) = hasK (kvs.map (·.1)) k := by
  unfold hasK
  rw [List.any_map]
  rfl
theorem putK_keys {kvs : List (Key × V)} {k : Key} {v : V} : (putK kvs k v).map (·.1) = putKs (kvs.map (·.1)) k := by
  unfold putK putKs
  rw [any_con]
  split
  · rw [List.map_map]
    apply List.map_congr_left
    intro a _
    show (if a.1 = k then (a.1, v) else a).1 = a.1
    split <;> rfl
  · rw [List.map_append]; rfl
theorem put_zip {k : Key} {v : V} {d : D} (h : Is K α F v d) : ∀ {kvs : List (Key × V)} {xs : List D}, IsL K α F (kvs.map (·.2)) xs →
    IsL K α F ((kvs.map fun kv => if kv.1 = k then (kv.1, v) else kv).map (·.2)) (List.zipWith (fun k' x => if k' = k then d else x) (kvs.map (·.1)) xs)
  | [], _, .nil => .nil
  | (k', u) :: r, _ :: xs, .cons hu l => by
    refine .cons ?_ (put_zip h l)
    show Is K α F (if k' = k then (k', v) else (k', u)).2 (if k' = k then d else _)
    split
    · exact h
    · exact hu
theorem putK_vals {kvs : List (Key × V)} {xs : List D} {k : Key} {v : V} {d : D} (l : IsL K α F (kvs.map (·.2)) xs) (h : Is K α F v d) : IsL K α F ((putK kvs k v).map (·.2)) (putXs (kvs.map (·.1)) xs k d) := by
  unfold putK putXs
  rw [any_con]
  split
  · exact put_zip h l
  · rw [List.map_append]
    exact l.append (.cons h .nil)
def rSetA : TSet := fun o i v H Q => rSetL o i v H Q ∨ rSetD o i v H Q
theorem set_A {X : Cx} (hu : X.A.units + 1 < cLine) : PSet X rSetA := by
  intro pins s σ H o i v ov iv u Q I ro ri rv h
  rcases h with h | h
  · exact set_list pins s σ H o i v ov iv u Q I ro ri rv h
  · exact set_dict hu pins s σ H o i v ov iv u Q I ro ri rv h
theorem store_go {o i d : D} {x y z : V} {Q : Hp → Prop} {g : Unit → List Ob → SO} {D' : Ends} (w : Wd K γ α F H μ) (ho : Is K α F x o) (hi : Is K α F y i) (hd : Is K α F z d) (q : FinS K γ α F ((storeD o i d μ).st δ g) D' W)
    (k : ∀ μ1 H1, Wd K γ α F H1 μ1 → FinS K γ α F (g () μ1) D' W → Q H1) : rSetA x y z H Q := by
  unfold storeD at q
  cases o with
  | loc n =>
    cases ho with
    | loc ha =>
      rename_i a
      simp only at q
      cases hm : μ[n]? with
      | none => rw [hm] at q; exact q.elim
      | some ob =>
        rw [hm] at q
        have hob := w.obj n a ob ha hm
        cases ob with
        | lst xs =>
          cases i with
          | int j =>
            cases hi
            simp only at q
            obtain ⟨vs, h1, h2⟩ := hob
            cases hx : ixN xs.length j with
            | none => rw [hx] at q; exact q.elim
            | some jj =>
              rw [hx] at q
              exact .inl ⟨a, vs, j, jj, rfl, rfl, h1, by rw [h2.length]; exact hx, k _ _ (w.put (ob' := .lst (xs.set jj d)) ha hm (by intro z; cases z) ⟨_, upd_same, h2.set hd jj⟩) q⟩
          | _ => exact q.elim
        | dct ks xs =>
          simp only at q
          obtain ⟨kvs, h1, h2, h3⟩ := hob
          cases hk : i.key with
          | none => rw [hk] at q; exact q.elim
          | some key =>
            rw [hk] at q
            simp only at q
            split at q
            · rename_i hl
              have e := key_kV hi hk
              subst e
              subst h2
              rw [List.length_map] at hl
              exact .inr ⟨a, _, rfl, DPut.k h1 (by rw [sizeLine_eq]; exact hl), k _ _ (w.put (ob' := .dct (putKs _ key) (putXs _ xs key d)) ha hm (by intro z; cases z) ⟨_, upd_same, putK_keys, putK_vals h3 hd⟩) q⟩
            · exact q.elim
        | _ => exact q.elim
  | _ => exact q.elim

/-! ### targets that do something -/
def tGD (K : PySem.W.Frag) (W : WX) (g : D → RS) : TG := fun v σ H Q => ∃ γ α F μ δ d, Wd K γ α F H μ ∧ SlIs K α F σ δ ∧ Is K α F v d ∧ FinS K γ α F (g d δ μ) ⟨Q, fun _ _ => False, fun _ _ => False, fun _ _ => False⟩ W
def tGDs (K : PySem.W.Frag) (W : WX) (g : List D → RS) : TGs := fun vs σ H Q => ∃ γ α F μ δ ds, Wd K γ α F H μ ∧ SlIs K α F σ δ ∧ IsL K α F vs ds ∧ FinS K γ α F (g ds δ μ) ⟨Q, fun _ _ => False, fun _ _ => False, fun _ _ => False⟩ W
abbrev PGD (X : Cx) (W : WX) (tg : Expr) (g : D → RS) : Prop := PG X tg (tGD X.K W g)
abbrev PGDs (X : Cx) (W : WX) (tg : List Expr) (g : List D → RS) : Prop := PGs X tg (tGDs X.K W g)
end
section
variable {X : Cx} {W : WX} {pos p p' : Pos} {o i e : Expr} {es : List Expr} {fo fi f : RE} {g : D → RS} {gs : List D → RS} {fs : RA}
def gNm (i : Nat) : D → RS := fun d δ μ => .nx (δ.set i (some d)) μ
theorem pgd_nm (i : Nat) {x : Str} (hN : X.N.Nodup) (hi : X.N[i]? = some x := by rfl) (hx : Loc X.env.scope x := by first | exact Or.inl rfl | exact Or.inr rfl) (hf : X.fn x = true ∨ X.env.scope.names.lookup x = some .local := by first | exact .inl rfl | exact .inr rfl | assumption) : PGD X W (.Name x pos) (gNm i) :=
  pg_weak (pg_name hN hi hx hf) fun v σ H Q ⟨γ, α, F, μ, δ, d, w, s, hv, q⟩ => q.nx_ w (s.set i hv)
def gSt (fo fi : RE) : D → RS := fun d δ μ => (fo δ μ).st δ fun o μ1 => (fi δ μ1).st δ fun i μ2 => (storeD o i d μ2).st δ fun _ μ3 => .nx δ μ3
theorem pgd_sub (hu : X.A.units + 65 < cLine) (ho : PD X W o fo) (hi : PD X W i fi)
    (ha : ∀ v, assign (.Subscript o i pos) X.env v = (do
      let ov ← holding [v] (eval o X.env)
      let iv ← holding [v, ov] (eval i X.env)
      standAt pos
      holding [v, ov, iv] (setItem ov iv v)
      release [v, ov, iv] []) := by intro _; rfl) : PGD X W (.Subscript o i pos) (gSt fo fi) :=
  pg_weak (pg_sub ho hi (set_A (by omega)) ha) fun v σ H Q ⟨γ, α, F, μ, δ, d, w, s, hv, q⟩ => by
    refine tD_st w s q fun ob μ1 α1 F1 H1 x p1 e1 w1 s1 ho q1 => tD_st w1 s1 q1 fun ix μ2 α2 F2 H2 y p2 e2 w2 s2 hi q2 => ?_
    exact store_go w2 (ho.mono p2 e2) hi (hv.mono (p1.trans p2) (e1.trans e2)) q2 fun μ3 H3 w3 q3 => q3.nx_ w3 s2
def gNil : List D → RS := fun ds δ μ => match ds with
  | [] => .nx δ μ
  | _ => .bad
def gCons (g : D → RS) (gs : List D → RS) : List D → RS := fun ds δ μ => match ds with
  | d :: r => rSeq (g d) (gs r) δ μ
  | [] => .bad
theorem pgds_nil : PGDs X W [] gNil := pgs_weak pgs_nil fun v σ H Q ⟨γ, α, F, μ, δ, ds, w, s, hv, q⟩ => by
  cases hv with
  | nil => exact ⟨rfl, q.nx_ w s⟩
  | cons _ _ => exact q.elim
theorem pgds_cons (h1 : PGD X W e g) (h2 : PGDs X W es gs) (hs : (assignEach (e :: es) X.env).map (·.2) = assign e X.env :: (assignEach es X.env).map (·.2) := by rfl) : PGDs X W (e :: es) (gCons g gs) :=
  pgs_weak (pgs_cons h1 h2 hs) fun v σ H Q ⟨γ, α, F, μ, δ, ds, w, s, hv, q⟩ => by
    cases hv with
    | nil => exact q.elim
    | cons hv l =>
      refine ⟨_, _, rfl, γ, α, F, μ, δ, _, w, s, hv, ?_⟩
      unfold gCons rSeq at q
      simp only at q
      rename_i dd _ _
      cases hg : g dd δ μ with
      | nx δ1 μ1 =>
        rw [hg] at q
        exact fun α' F' H' σ' p e w' s' => ⟨γ, α', F', μ1, δ1, _, w', s', l.mono p e, q.up p e⟩
      | exc x δ1 μ1 => rw [hg] at q; exact q
      | bad => rw [hg] at q; exact q
      | rt d μ1 => rw [hg] at q; exact fun α' F' H' v p e w' hv => q α' F' H' v p e w' hv
      | bk δ1 μ1 => rw [hg] at q; exact fun α' F' H' v p e w' hv => q α' F' H' v p e w' hv
      | ct δ1 μ1 => rw [hg] at q; exact fun α' F' H' v p e w' hv => q α' F' H' v p e w' hv
def gTp (n : Nat) (gs : List D → RS) : D → RS := fun d δ μ => match d with
  | .tup ds => if ds.length = n then gs ds δ μ else .bad
  | _ => .bad
theorem pgd_tup {n k : Nat} (hc : X.calm = true) (h : PGDs X W es gs) (hn : (assignEach es X.env).length = n := by rfl) (hst : (assignEach es X.env).findIdx? (·.1) = none := by rfl) : PGD X W (.Tuple es k pos) (gTp n gs) :=
  pg_weak (pg_tup hc h hn hst) fun v σ H Q ⟨γ, α, F, μ, δ, d, w, s, hv, q⟩ => by
    unfold gTp at q
    cases hv with
    | tup ha l =>
      simp only at q
      split at q
      · rename_i hl
        exact ⟨_, _, rfl, sqt_mono w.sub ha, by rw [l.length]; exact hl, γ, α, F, μ, δ, _, w, s, l, q⟩
      · exact q.elim
    | _ => exact q.elim
def rAsgD (g : D → RS) (f : RE) : RS := fun δ μ => (f δ μ).st δ fun d μ1 => match g d δ μ1 with
  | .nx δ1 μ2 => .nx δ1 μ2
  | .exc x δ1 μ2 => .exc x δ1 μ2
  | _ => .bad
theorem psd_asgD {tg : Expr} (he : PD X W e f) (hg : PGD X W tg g) (hs : swapsWithSole [tg] e pos.line X.env = pure false := by rfl) (hw : swappedStores [tg] e X.env = pure none := by rfl)
    (h1 : (assignEach [tg] X.env).map (·.2) = [assign tg X.env] := by rfl) : PSD X W (.Assign [tg] e pos) (rAsgD g f) :=
  ps_weak (ps_asg he hg hs hw h1) fun D' σ H ⟨γ, α, F, μ, δ, w, s, q⟩ => tD_st w s q fun d μ1 α1 F1 H1 v p1 e1 w1 s1 hv q1 => by
    refine ⟨γ, α1, F1, μ1, δ, d, w1, s1, hv, ?_⟩
    cases hg : g d δ μ1 with
    | nx δ1 μ2 => rw [hg] at q1; exact q1
    | exc x δ1 μ2 => rw [hg] at q1; exact q1
    | _ => rw [hg] at q1; exact q1.elim
end

/-! ### methods of built-in things -/
def Mtn (K : PySem.W.Frag) (T : String) (r : V → List V → Hp → VK → Prop) (c : D → Bool) (m : D → List D → List Ob → R D) : Prop :=
  (∀ α F H v d, Vw K α F H v d → c d = true → tyV K T v H) ∧ ∀ γ α F H μ v d vs ds Q E, Wd K γ α F H μ → Is K α F v d → IsL K α F vs ds → Fin K γ α F (m d ds μ) (okD K Q) E → r v vs H Q
def rMt (c : D → Bool) (m : D → List D → List Ob → R D) (fo : RE) (fs : RA) : RE := fun δ μ => (fo δ μ).bind fun d μ1 => if c (d.view μ1) then (fs δ μ1).bind fun ds μ2 => m d ds μ2 else .bad
section
variable {X : Cx} {W : WX} {o e : Expr} {es : List Expr} {fo : RE} {fs : RA} {apos cpos : Pos} {T : String} {name : Str} {id : String} {r : V → List V → Hp → VK → Prop} {c : D → Bool} {m : D → List D → List Ob → R D}
theorem pd_mt (pa : PlainAttrs T) (slot : Slot T name id) (hty : typeOf (.builtin id) = pure (.type "method_descriptor")) (hm : MtR X id r) (h : Mtn X.K T r c m) (ho : PD X W o fo) (ha : PDA X W (e :: es) fs)
    (hbase : attributeBase o name X.env (eval o X.env) = eval o X.env := by rfl)
    (hfew : ((backTo cpos (starEach (e :: es) X.env)).all (fun x => !x.1) && (backToKw cpos (keywordEach [] X.env)).all (fun x => x.1.isSome)
      && decide ((e :: es).length + ([] : List Keyword).length + (if ([] : List Keyword).isEmpty then 0 else 1) < 30)) = true := by rfl)
    (hline : (apos.endLine == cpos.line) = true := by rfl) (hs : starEach (e :: es) X.env = (false, eval e X.env) :: starEach es X.env := by rfl) (hplain : (backTo cpos (starEach es X.env)).any (·.1) = false := by rfl) :
    PD X W (.Call (.Attribute o name apos) (e :: es) [] cpos) (rMt c m fo fs) :=
  pe_weak (pe_bm pa slot hty hm ho ha hbase hfew hline hs hplain) fun σ H Q ⟨γ, α, F, μ, δ, w, s, q⟩ => tD_go w s q fun d μ1 α1 F1 H1 v p1 e1 w1 s1 hv q1 => by
    split at q1
    · rename_i hc
      refine ⟨h.1 _ _ _ _ _ (w1.view hv) hc, ?_⟩
      exact tDA_go w1 s1 q1 fun ds μ2 α2 F2 H2 vs p2 e2 w2 s2 hvs q2 => h.2 γ α2 F2 H2 μ2 v d vs ds Q _ w2 (hv.mono p2 e2) hvs q2
    · exact q1.elim
end
section
variable {K : PySem.W.Frag} {γ : Hp} {α : List Addr} {F H : Hp} {μ : List Ob} {σ : St} {δ : Sl} {W : WX} {Q : VK} {E : XK}
def isLst : D → Bool
  | .lst _ => true
  | _ => false
def isStr : D → Bool
  | .str _ => true
  | _ => false
theorem ty_lst {v : V} {d : D} (h : Vw K α F H v d) (c : isLst d = true) : tyV K "list" v H := by
  cases d with
  | lst xs => obtain ⟨a, us, rfl, ha, l⟩ := h; exact .inl ⟨rfl, us, .inl (.inl ha)⟩
  | _ => cases c
theorem ty_str {v : V} {d : D} (h : Vw K α F H v d) (c : isStr d = true) : tyV K "str" v H := by
  cases d with
  | str xs => cases Is.toStr (K := K) h; exact rfl
  | _ => cases c
/-- x.append(d), x.extend(ds) -/
def apD : D → List D → List Ob → R D := fun o ds μ => match o, ds with
  | .loc k, [d] => match μ[k]? with
    | some (.lst xs) => if xs.length < 16777216 then .ok .non (μ.set k (.lst (xs ++ [d]))) else .bad
    | _ => .bad
  | _, _ => .bad
theorem mtn_append : Mtn K "list" rAppend isLst apD := ⟨fun α F H v d => ty_lst, fun γ α F H μ v d vs ds Q E w hv hds q => by
  unfold apD at q
  split at q
  · rename_i k d
    cases hv with
    | loc ha =>
      rename_i a
      obtain ⟨u, rfl, hu⟩ := hds.one
      cases hm : μ[k]? with
      | none => rw [hm] at q; exact q.elim
      | some ob =>
        rw [hm] at q
        have hob := w.obj k a ob ha hm
        cases ob with
        | lst xs =>
          simp only at q
          obtain ⟨us, h1, h2⟩ := hob
          split at q
          · rename_i hl
            exact ⟨a, us, u, rfl, rfl, h1, by rw [h2.length, sizeLine_eq]; exact hl, fin_ok (w.put (ob' := .lst (xs ++ [d])) ha hm (by intro z; cases z) ⟨_, upd_same, h2.append (.cons hu .nil)⟩) .non q⟩
          · exact q.elim
        | _ => exact q.elim
  · exact q.elim⟩
def exD : D → List D → List Ob → R D := fun o ds μ => match o, ds with
  | .loc k, [d] => match μ[k]?, d.view μ with
    | some (.lst xs), .lst ys => if xs.length + ys.length ≤ 16777216 then .ok .non (μ.set k (.lst (xs ++ ys))) else .bad
    | _, _ => .bad
  | _, _ => .bad
theorem mtn_extend : Mtn K "list" rExtend isLst exD := ⟨fun α F H v d => ty_lst, fun γ α F H μ v d vs ds Q E w hv hds q => by
  unfold exD at q
  split at q
  · rename_i k d
    cases hv with
    | loc ha =>
      rename_i a
      obtain ⟨u, rfl, hu⟩ := hds.one
      cases hm : μ[k]? with
      | none => rw [hm] at q; exact q.elim
      | some ob =>
        rw [hm] at q
        have hob := w.obj k a ob ha hm
        cases ob with
        | lst xs =>
          have vw := w.view hu
          cases hd : d.view μ with
          | lst ys =>
            rw [hd] at q vw
            simp only at q
            obtain ⟨us, h1, h2⟩ := hob
            obtain ⟨b, zs, rfl, hb, l⟩ := vw
            split at q
            · rename_i hl
              exact ⟨a, b, us, zs, rfl, rfl, h1, hb, by rw [h2.length, l.length, sizeLine_eq]; exact hl, fin_ok (w.put (ob' := .lst (xs ++ ys)) ha hm (by intro z; cases z) ⟨_, upd_same, h2.append l⟩) .non q⟩
            · exact q.elim
          | _ => rw [hd] at q; exact q.elim
        | _ => exact q.elim
  · exact q.elim⟩
def strsD : List D → Option (List Str)
  | [] => some []
  | .str b :: r => (strsD r).map (b :: ·)
  | _ => none
theorem strs_is : ∀ {xs : List D} {bs : List Str} {vs : List V}, strsD xs = some bs → IsL K α F vs xs → vs = bs.map V.str
  | [], bs, vs, e, h => by cases e; cases h; rfl
  | d :: r, bs, vs, e, h => by
    cases d with
    | str b =>
      rw [strsD] at e
      cases hr : strsD r with
      | none => rw [hr] at e; cases e
      | some cs =>
        rw [hr] at e
        cases e
        cases h with
        | cons h t => cases h; rw [strs_is hr t]; rfl
    | _ => cases e
theorem is_strs : ∀ ys : List Str, IsL K α F (ys.map V.str) (ys.map D.str)
  | [] => .nil
  | y :: ys => .cons (.str y) (is_strs ys)
/-- a.join(xs), a.split(b) -/
def joinD : D → List D → List Ob → R D := fun o ds μ => match o, ds with
  | .str a, [d] => match d.view μ with
    | .lst xs => match strsD xs with
      | some ys => if (ys.map (·.length)).sum + ys.length * a.length ≤ 16777216 then .ok (.str (Txt.join a ys)) μ else .bad
      | none => .bad
    | _ => .bad
  | _, _ => .bad
def rJoin (K : PySem.W.Frag) : V → List V → Hp → VK → Prop := fun x xs H Q => ∃ a p, ∃ ys : List Str, x = .str a ∧ xs = [.ref p] ∧ (SqL K H p (ys.map V.str) ∨ SqT K H p (ys.map V.str)) ∧ (ys.map (·.length)).sum + ys.length * a.length ≤ 16777216 ∧ Q (.str (Txt.join a ys)) H
theorem mtn_join : Mtn K "str" (rJoin K) isStr joinD := ⟨fun α F H v d => ty_str, fun γ α F H μ v d vs ds Q E w hv hds q => by
  unfold joinD at q
  split at q
  · rename_i a d
    cases hv
    obtain ⟨u, rfl, hu⟩ := hds.one
    have vw := w.view hu
    cases hd : d.view μ with
    | lst xs =>
      rw [hd] at q vw
      simp only at q
      obtain ⟨b, zs, rfl, hb, l⟩ := vw
      cases hs : strsD xs with
      | none => rw [hs] at q; exact q.elim
      | some ys =>
        rw [hs] at q
        simp only at q
        have e := strs_is hs l
        subst e
        split at q
        · exact ⟨a, b, ys, rfl, rfl, .inl (.inl (.inl hb)), by assumption, fin_ok w (.str _) q⟩
        · exact q.elim
    | _ => rw [hd] at q; exact q.elim
  · exact q.elim⟩
def splitD : D → List D → List Ob → R D := fun o ds μ => match o, ds with
  | .str a, [.str b] => if (b.length == 0) = false ∧ a.length + 2 ≤ 16777216 then .ok (.lst ((Txt.split a b).map D.str)) μ else .bad
  | _, _ => .bad
def rSplitS : V → List V → Hp → VK → Prop := fun x xs H Q => ∃ a b, x = .str a ∧ xs = [.str b] ∧ (b.length == 0) = false ∧ a.length + 2 ≤ sizeLine ∧ rNewStrs (Txt.split a b) H Q
theorem mtn_split : Mtn K "str" rSplitS isStr splitD := ⟨fun α F H v d => ty_str, fun γ α F H μ v d vs ds Q E w hv hds q => by
  unfold splitD at q
  split at q
  · rename_i a b
    cases hv
    obtain ⟨u, rfl, hu⟩ := hds.one
    cases hu
    split at q
    · rename_i h
      refine ⟨a, b, rfl, rfl, h.1, by rw [sizeLine_eq]; exact h.2, fun p hp => ?_⟩
      exact fin_lay w hp (.lst upd_same (is_strs _)) q
    · exact q.elim
  · exact q.elim⟩
end
section
variable {X : Cx} {W : WX} {o e : Expr} {fo : RE} {fs : RA} {apos cpos : Pos}
theorem pd_append (ho : PD X W o fo) (ha : PDA X W [e] fs) (hbase : attributeBase o "append" X.env (eval o X.env) = eval o X.env := by rfl) (hline : (apos.endLine == cpos.line) = true := by rfl)
    (hs : starEach [e] X.env = [(false, eval e X.env)] := by rfl) : PD X W (.Call (.Attribute o "append" apos) [e] [] cpos) (rMt isLst apD fo fs) :=
  pd_mt F.plainAttrs_list F.slot_list_append F.type_list_append mt_append mtn_append ho ha hbase (by rw [hs]; rfl) hline (by rw [hs]; rfl) rfl
theorem pd_extend (ho : PD X W o fo) (ha : PDA X W [e] fs) (hbase : attributeBase o "extend" X.env (eval o X.env) = eval o X.env := by rfl) (hline : (apos.endLine == cpos.line) = true := by rfl)
    (hs : starEach [e] X.env = [(false, eval e X.env)] := by rfl) : PD X W (.Call (.Attribute o "extend" apos) [e] [] cpos) (rMt isLst exD fo fs) :=
  pd_mt F.plainAttrs_list F.slot_list_extend F.type_list_extend mt_extend mtn_extend ho ha hbase (by rw [hs]; rfl) hline (by rw [hs]; rfl) rfl
theorem pd_join (ho : PD X W o fo) (ha : PDA X W [e] fs) (hbase : attributeBase o "join" X.env (eval o X.env) = eval o X.env := by rfl) (hline : (apos.endLine == cpos.line) = true := by rfl)
    (hs : starEach [e] X.env = [(false, eval e X.env)] := by rfl) : PD X W (.Call (.Attribute o "join" apos) [e] [] cpos) (rMt isStr joinD fo fs) :=
  pd_mt F.plainAttrs_str F.slot_str_join F.type_str_join mt_join mtn_join ho ha hbase (by rw [hs]; rfl) hline (by rw [hs]; rfl) rfl
theorem pd_split (ho : PD X W o fo) (ha : PDA X W [e] fs) (hbase : attributeBase o "split" X.env (eval o X.env) = eval o X.env := by rfl) (hline : (apos.endLine == cpos.line) = true := by rfl)
    (hs : starEach [e] X.env = [(false, eval e X.env)] := by rfl) : PD X W (.Call (.Attribute o "split" apos) [e] [] cpos) (rMt isStr splitD fo fs) :=
  pd_mt F.plainAttrs_str F.slot_str_split F.type_str_split mt_split mtn_split ho ha hbase (by rw [hs]; rfl) hline (by rw [hs]; rfl) rfl
end

/-! ### dicts: {}, a dict that stands still from here; stars in displays -/
section
variable {X : Cx} {W : WX} {e : Expr} {es : List Expr} {f : RE} {fs : RA} {pos p : Pos}
def rDnew : RE := fun _ μ => .ok (.loc μ.length) (μ ++ [.dct [] []])
theorem pd_dnew : PD X W (.Dict [] [] pos) rDnew := pe_weak pe_dnewK fun σ H Q ⟨γ, α, F, μ, δ, w, s, q⟩ l hl =>
  q (α ++ [l]) F _ (List.prefix_append _ _) (Same.refl F) (w.new hl ⟨[], upd_same, rfl, .nil⟩) _ (.loc (w.newAt l))
/-- the dict e gives is not changed any more -/
def rFrz (f : RE) : RE := fun δ μ => (f δ μ).bind fun d μ1 => match d with
  | .loc k => match μ1[k]? with
    | some (.dct ks xs) => .ok (.dct ks xs) (μ1.set k .dead)
    | _ => .bad
  | _ => .bad
theorem pd_frz (h : PD X W e f) : PD X W e (rFrz f) := pe_weak (pe_frz h) fun σ H Q ⟨γ, α, F, μ, δ, w, s, q⟩ => tD_go w s q fun d μ1 α1 F1 H1 v p1 e1 w1 s1 hv q1 => by
  cases d with
  | loc k =>
    cases hv with
    | loc ha =>
      rename_i a
      simp only at q1
      cases hm : μ1[k]? with
      | none => rw [hm] at q1; exact q1.elim
      | some ob =>
        rw [hm] at q1
        have hob := w1.obj k a ob ha hm
        cases ob with
        | dct ks xs =>
          obtain ⟨kvs, h1, h2, h3⟩ := hob
          refine ⟨a, kvs, rfl, h1, fun o => ?_⟩
          have hn : F1 a = none := w1.apart k a _ ha hm (by intro z; cases z)
          exact q1 α1 _ _ (List.prefix_refl _) (same_new hn) (w1.frz ha hm (by intro z; cases z)) _ (.dct ⟨o, upd_same⟩ h2 (h3.mono (List.prefix_refl _) (same_new hn)))
        | _ => exact q1.elim
  | _ => exact q1.elim
/-- *xs among a display's parts -/
def rStar (f : RE) (fs : RA) : RA := fun δ μ => (f δ μ).bind fun d μ1 => match d.view μ1 with
  | .lst xs => (fs δ μ1).bind fun ds μ2 => .ok (xs ++ ds) μ2
  | .tup xs => (fs δ μ1).bind fun ds μ2 => .ok (xs ++ ds) μ2
  | _ => .bad
theorem pda_star (he : PD X W e f) (hr : PDA X W es fs) (hs : starEach (.Starred e p :: es) X.env = (true, eval e X.env) :: starEach es X.env := by rfl) : PDA X W (.Starred e p :: es) (rStar f fs) :=
  pa_weak (StX.pa_star he hr hs) fun σ H Q ⟨γ, α, F, μ, δ, w, s, q⟩ => tD_go w s q fun d μ1 α1 F1 H1 v p1 e1 w1 s1 hv q1 => by
    have vw := w1.view hv
    cases hd : d.view μ1 with
    | lst xs =>
      rw [hd] at q1 vw
      obtain ⟨a, us, rfl, ha, l⟩ := vw
      exact ⟨a, us, rfl, .inr (.inl (.inl ha)), tDA_go w1 s1 q1 fun ds μ2 α2 F2 H2 vs p2 e2 w2 s2 hvs q2 => q2 α2 F2 H2 (List.prefix_refl _) (Same.refl F2) w2 _ ((l.mono p2 e2).append hvs)⟩
    | tup xs =>
      rw [hd] at q1 vw
      obtain ⟨a, us, rfl, ha, l⟩ := vw
      exact ⟨a, us, rfl, .inl ha, tDA_go w1 s1 q1 fun ds μ2 α2 F2 H2 vs p2 e2 w2 s2 hvs q2 => q2 α2 F2 H2 (List.prefix_refl _) (Same.refl F2) w2 _ ((l.mono p2 e2).append hvs)⟩
    | _ => rw [hd] at q1; exact q1.elim
end
end DL

/-! The data layer, j: attributes, own objects made and compared, dict comprehensions. -/
namespace DL
open PySem L2

/-! ### attributes -/
/-- an attribute of an own class's objects -/
structure At (K : PySem.W.Frag) (C : Addr) (f : Str) : Prop where
  cl : Cls K C
  no : NoAttr K C f
def fldD (C : Addr) (f : Str) (d : D) (μ : List Ob) : R D := match d.view μ with
  | .ins C' fs xs => if C' = C then (match lookD fs xs f with
    | some x => .ok x μ
    | none => .bad) else .bad
  | _ => .bad
def rFld (C : Addr) (f : Str) (fe : RE) : RE := fun δ μ => (fe δ μ).bind fun d μ1 => fldD C f d μ1
theorem lookup_val {f : Str} : ∀ {fv : List (Str × V)}, fv.lookup f = valV fv f
  | [] => rfl
  | (g, v) :: r => by
    rw [List.lookup_cons]
    by_cases h : g = f
    · subst h
      rw [valV_pos rfl]
      simp
    · rw [valV_neg h, ← lookup_val]
      have : (f == g) = false := beq_eq_false_iff_ne.mpr (Ne.symm h)
      rw [this]
section
variable {K : PySem.W.Frag} {γ : Hp} {α : List Addr} {F H : Hp} {μ : List Ob} {σ : St} {δ : Sl} {W : WX} {Q : VK} {E : XK}
theorem look_val' {κ : Type} [DecidableEq κ] {k : κ} {kvs : List (κ × V)} {xs : List D} {d : D} (l : IsL K α F (kvs.map (·.2)) xs) (e : lookD (kvs.map (·.1)) xs k = some d) : ∃ v, valV kvs k = some v ∧ Is K α F v d := (look_val k l).1 d e
theorem is_fld {a : Addr} {C : Addr} {dx : Addr} {fv : List (Str × V)} {f : Str} {x : D} {xs : List D} (l : IsL K α F (fv.map (·.2)) xs) (e : lookD (fv.map (·.1)) xs f = some x) : ∃ v, fv.lookup f = some v ∧ Is K α F v x := by
  obtain ⟨v, h1, h2⟩ := look_val' l e
  exact ⟨v, by rw [lookup_val]; exact h1, h2⟩
end
section
variable {X : Cx} {W : WX} {o e value : Expr} {fe fo fv : RE} {f : Str} {pos pos' : Pos} {C : Addr}
theorem pd_fld (T : At X.K C f) (ha : PD X W e fe) (hb : attributeBase e f X.env (eval e X.env) = eval e X.env := by rfl) : PD X W (.Attribute e f pos) (rFld C f fe) :=
  pe_weak (pe_fld ha hb) fun σ H Q ⟨γ, α, F, μ, δ, w, s, q⟩ => tD_go w s q fun d μ1 α1 F1 H1 v p1 e1 w1 s1 hv q1 => by
    unfold fldD at q1
    have vw := w1.view hv
    cases hd : d.view μ1 with
    | ins C' fs xs =>
      rw [hd] at q1 vw
      simp only at q1
      split at q1
      · rename_i hC
        subst hC
        obtain ⟨a, dx, fv, rfl, h1, rfl, l⟩ := vw
        cases hx : lookD (fv.map (·.1)) xs f with
        | none => rw [hx] at q1; exact q1.elim
        | some x =>
          rw [hx] at q1
          obtain ⟨u, h3, h4⟩ := is_fld (a := a) (C := C') (dx := dx) l hx
          exact ⟨a, C', dx, fv, u, rfl, h1, T.cl, T.no, h3, q1 α1 F1 H1 (List.prefix_refl _) (Same.refl F1) w1 u h4⟩
      · exact q1.elim
    | _ => rw [hd] at q1; exact q1.elim
/-- o.f = e -/
def putFs (fs : List Str) (f : Str) : List Str := if fs.any (fun g => decide (g = f)) then fs else fs ++ [f]
def putFx (fs : List Str) (xs : List D) (f : Str) (d : D) : List D := if fs.any (fun g => decide (g = f)) then List.zipWith (fun g x => if g = f then d else x) fs xs else xs ++ [d]
def stFld (C : Addr) (f : Str) (o d : D) (μ : List Ob) : R Unit := match o with
  | .loc k => match μ[k]? with
    | some (.ins C' fs xs) => if C' = C then (if fs.length < 1000 then (if fs.Nodup then .ok () (μ.set k (.ins C' (putFs fs f) (putFx fs xs f d))) else .bad) else .bad) else .bad
    | _ => .bad
  | _ => .bad
def rSetF (C : Addr) (f : Str) (fo fv : RE) : RS := fun δ μ => (fv δ μ).st δ fun d μ1 => (fo δ μ1).st δ fun o μ2 => (stFld C f o d μ2).st δ fun _ μ3 => .nx δ μ3
theorem putF_keys {f : Str} {v : V} : ∀ {fs : List (Str × V)}, (putF f v fs).map (·.1) = putFs (fs.map (·.1)) f
  | [] => rfl
  | (g, x) :: r => by
    unfold putF putFs
    rw [List.map_cons, List.any_cons]
    by_cases h : g = f
    · rw [if_pos h]
      rw [decide_eq_true h, Bool.true_or, if_pos rfl]
      rfl
    · rw [if_neg h]
      rw [decide_eq_false h, Bool.false_or, List.map_cons, putF_keys]
      unfold putFs
      split <;> rfl
theorem zip_same {f : Str} {d : D} : ∀ {fs : List Str} {xs : List D}, f ∉ fs → fs.length = xs.length → List.zipWith (fun g x => if g = f then d else x) fs xs = xs
  | [], [], _, _ => rfl
  | g :: fs, x :: xs, h, e => by
    have hg : ¬ g = f := fun q => h (by rw [← q]; exact List.mem_cons_self ..)
    rw [List.zipWith_cons_cons, if_neg hg, zip_same (fun q => h (List.mem_cons_of_mem _ q)) (Nat.succ.inj e)]
theorem putF_vals {K : PySem.W.Frag} {α : List Addr} {F : Hp} {f : Str} {v : V} {d : D} (h : Is K α F v d) : ∀ {fs : List (Str × V)} {xs : List D}, (fs.map (·.1)).Nodup → IsL K α F (fs.map (·.2)) xs → IsL K α F ((putF f v fs).map (·.2)) (putFx (fs.map (·.1)) xs f d)
  | [], _, _, .nil => .cons h .nil
  | (g, u) :: r, x :: xs, nd, .cons hu l => by
    unfold putF putFx
    rw [List.map_cons, List.any_cons]
    have nd' := List.nodup_cons.mp nd
    have hl := l.length
    rw [List.length_map] at hl
    by_cases e : g = f
    · rw [if_pos e]
      rw [decide_eq_true e, Bool.true_or, if_pos rfl]
      rw [List.zipWith_cons_cons, if_pos e]
      refine .cons h ?_
      rw [zip_same (by rw [← e]; exact nd'.1) (by rw [List.length_map]; exact hl)]
      exact l
    · rw [if_neg e]
      rw [decide_eq_false e, Bool.false_or]
      have ih := putF_vals (f := f) (v := v) (d := d) h nd'.2 l
      unfold putFx at ih
      split
      · rename_i h2
        rw [if_pos h2] at ih
        rw [List.zipWith_cons_cons, if_neg e]
        exact .cons hu ih
      · rename_i h2
        rw [if_neg h2] at ih
        exact .cons hu ih
theorem psd_fld (T : At X.K C f) (ha : PD X W o fo) (hv : PD X W value fv) (hs : swapsWith value (some (.Attribute o f pos')) pos.line X.env = pure false := by rfl) : PSD X W (.Assign [.Attribute o f pos'] value pos) (rSetF C f fo fv) :=
  ps_weak (ps_fld ha hv hs) fun D' σ H ⟨γ, α, F, μ, δ, w, s, q⟩ => tD_st w s q fun d μ1 α1 F1 H1 v p1 e1 w1 s1 hv q1 => tD_st w1 s1 q1 fun o μ2 α2 F2 H2 x p2 e2 w2 s2 ho q2 => by
    unfold stFld at q2
    cases o with
    | loc k =>
      cases ho with
      | loc ha =>
        rename_i a
        simp only at q2
        cases hm : μ2[k]? with
        | none => rw [hm] at q2; exact q2.elim
        | some ob =>
          rw [hm] at q2
          have hob := w2.obj k a ob ha hm
          cases ob with
          | ins C' fs xs =>
            simp only at q2
            split at q2
            · rename_i hC
              subst hC
              split at q2
              · rename_i hl
                split at q2
                · rename_i nd
                  obtain ⟨dx, gv, h1, rfl, l⟩ := hob
                  rw [List.length_map] at hl
                  exact ⟨a, C', dx, gv, rfl, h1, T.cl, T.no, hl, q2.nx_ (w2.put (ob' := .ins C' (putFs _ f) (putFx _ xs f d)) ha hm (by intro z; cases z) ⟨dx, _, upd_same, putF_keys, putF_vals (hv.mono p2 e2) nd l⟩) s2⟩
                · exact q2.elim
              · exact q2.elim
            · exact q2.elim
          | _ => exact q2.elim
    | _ => exact q2.elim
end

/-! ### C(..): an object is made -/
/-- .. and stands still from then on -/
def rMake (C : Addr) (n : Nat) (ct : Ct) (fs : RA) : RE := fun δ μ => (fs δ μ).bind fun ds μ1 => if ds.length = n then (match ct (.loc μ1.length :: ds) (μ1 ++ [.ins C [] []]) with
  | .ok .non μ2 => (match μ2[μ1.length]? with
    | some (.ins C' fs xs) => .ok (.ins C' fs xs) (μ2.set μ1.length .dead)
    | _ => .bad)
  | _ => .bad)
  else .bad
/-- a class of the text, its __init__ by contract -/
structure Cml (P : Program) (w : World) (K : PySem.W.Frag) (mg : Str → Option Value) (base : Heap) (k : Nat) (x : Str) (C : Addr) (n : Nat) (ct : Ct) : Prop where
  ex : ∃ (f : Addr) (fd : FuncData) (ps : List Str), ps.length = n + 1 ∧ Mk K C f ∧ FnOk P w K mg base (L2.CX P w) k f fd ps (spD K (n + 1) ct) ∧ mg x = some (.ref C) ∧ Binds K fd ps []
section
variable {X : Cx} {W : WX} {k j n : Nat} {x : Str} {ct : Ct} {C : Addr}
theorem Wd.mk2 {K : PySem.W.Frag} {γ : Hp} {α : List Addr} {F H : Hp} {μ : List Ob} {a dx : Addr} (w : Wd K γ α F H μ) (ha : H a = none) (hd : H dx = none) (ne : dx ≠ a) : Wd K γ (α ++ [a]) F (upd (upd H dx (.own a)) a (.ins C dx [])) (μ ++ [.ins C [] []]) := by
  have w1 := w.lay0 (o := .own a) hd
  refine w1.new (by rw [upd_ne ne.symm]; exact ha) ⟨dx, [], upd_same, rfl, .nil⟩
theorem pd_make {e : Expr} {es : List Expr} {fs : RA} {p pos : Pos} (c : Cml X.prog X.w X.K X.mg X.base k x C n ct) (g : Good X W j) (ha : PDA X W (e :: es) fs) (hk : k + 1 ≤ j := by decide) (hg : Gl X x := by rfl) (hdb : (x == ("__debug__" : Str)) = false := by decide)
    (he : starEach (e :: es) X.env = (false, eval e X.env) :: starEach es X.env := by rfl) (hpl : (backTo pos (starEach es X.env)).any (·.1) = false := by rfl)
    : PD X W (.Call (.Name x p) (e :: es) [] pos) (rMake C n ct fs) := by
  obtain ⟨f, fd, ps, hnn, M, F, hm, hb⟩ := c.ex
  refine pe_weak (pe_make M F (g.hr.mono hk) hg hm hb .nil passL ha hdb he hpl) fun σ H Q ⟨γ, α, F, μ, δ, w, s, q⟩ => ?_
  refine tDA_go w s q fun ds μ1 α1 F1 H1 vs p1 e1 w1 s1 hv q1 => ?_
  intro a dx h1 h2 ne
  by_cases hl : ds.length = n
  · rw [if_pos hl] at q1
    have w2 := w1.mk2 (C := C) h1 h2 ne
    have px : α1 <+: α1 ++ [a] := List.prefix_append _ _
    refine ⟨by simp [hv.length, hl], γ, α1 ++ [a], F1, _, _, w2, .cons (.loc (w1.newAt a)) ((by rw [List.append_nil]; exact hv.mono px (Same.refl F1))), ?_⟩
    cases hc : ct (.loc μ1.length :: ds) (μ1 ++ [.ins C [] []]) with
    | bad => rw [hc] at q1; exact q1.elim
    | exc x μ2 => rw [hc] at q1; exact q1.elim
    | ok d μ2 =>
      rw [hc] at q1
      intro α2 F2 H2 p2 e2 w3 v hvd
      cases d with
      | non =>
        cases hvd
        refine ⟨rfl, ?_⟩
        simp only at q1
        cases hm2 : μ2[μ1.length]? with
        | none => rw [hm2] at q1; exact q1.elim
        | some ob =>
          rw [hm2] at q1
          have hat : α2[μ1.length]? = some a := pre_get p2 (w1.newAt a)
          have hob := w3.obj _ a ob hat hm2
          cases ob with
          | ins C' fs xs =>
            simp only at q1
            obtain ⟨dx', fv, g1, g2, g3⟩ := hob
            have fa : F2 a = none := w3.apart _ a _ hat hm2 (by intro z; cases z)
            have w4 := w3.frz (o := .ins C' dx' fv) hat hm2 (by intro z; cases z)
            rw [upd_id g1] at w4
            exact q1 α2 _ H2 (px.trans p2) (e2.trans (same_new fa)) w4 _ (.ins upd_same g2 (g3.mono (List.prefix_refl _) (same_new fa)))
          | _ => exact q1.elim
      | _ => exact q1.elim
  · rw [if_neg hl] at q1; exact q1.elim
end

/-! ### == by the text's own __eq__ -/
def rOwn (C : Addr) (sp : Sp) (E : XK) : R2 := fun x y H Q => ∃ a b dx dy fs gs, x = .ref a ∧ y = .ref b ∧ H a = some (.ins C dx fs) ∧ H b = some (.ins C dy gs) ∧ sp [.ref a, .ref b] H (fun v H' => (∃ k, v = .bl k) ∧ Q v H') E
theorem op_own {X : Cx} {CX : CXT} {C f : Addr} {fd : FuncData} {ps : List Str} {sp : Sp} {E : XK} {n : Nat} (F : FnOk X.prog X.w X.K X.mg X.base CX n f fd ps sp) (hr : Room n X.A)
    (hs : PySem.W.findIn X.K (.ref C) "__eq__" = some (some (.ref f))) (hf : PySem.W.isFn X.K (.ref f) = true) (hb : Binds X.K fd ps []) (hx : Passes CX X E) : OpR X (compareOp .Eq) (rOwn C sp E) := by
  intro pins s σ H x y u v Q I rx ry d
  obtain ⟨a, b, dx, dy, fs, gs, e1, e2, ha, hb', hsp⟩ := d
  subst e1
  subst e2
  cases rx
  cases ry
  obtain ⟨mA, J, _⟩ := ins_get I.hok ha
  obtain ⟨mB, J', _⟩ := ins_get I.hok hb'
  obtain ⟨od, J, _⟩ := J.look
  obtain ⟨od', J', _⟩ := J'.look
  obtain ⟨m, hF⟩ := I.fr
  show wpAny (model X.prog X.w) X.A (richCompare .Eq (.ref a) (.ref b)) (EP X pins σ Q) X.xe s
  refine PySem.W.cmp_K (op := .Eq) (tb := .ref C) hr.units0 hF I.ok.mod.kin J J'.type (by simp [PySem.W.notFirst]) hs hf ?_
  have hl := F.len _ _ _ _ hsp
  have r2 : Vals [V.ref a, V.ref b] [Value.ref a, Value.ref b] := .cons rfl (.cons rfl .nil)
  refine wpAny_call (codeAny_mono (F.run X.A X.stack s H ⟨[.ref a, .ref b], []⟩ [.ref a, .ref b] [.ref a, .ref b] _ E hr I.env0 (by
    have := hb s [.ref a, .ref b] I.kIn (by simpa using hl)
    simpa using this) r2 hsp) fun r s' hq => ?_)
  cases r with
  | error e => exact hx pins σ H s e s' I hq
  | ok fl =>
    cases fl with
    | ret w =>
      obtain ⟨z, H', I', rz, ⟨kk, ez⟩, ex⟩ := I.after hq
      subst ez
      cases rz
      exact ⟨.bl kk, H', I', rfl, ex⟩
    | next => exact False.elim hq
    | brk => exact False.elim hq
    | cont => exact False.elim hq
/-- the class C has an own ==, kept by contract -/
structure Ceq (P : Program) (w : World) (K : PySem.W.Frag) (mg : Str → Option Value) (base : Heap) (k : Nat) (C : Addr) (ct : Ct) : Prop where
  ex : ∃ (f : Addr) (fd : FuncData) (ps : List Str), ps.length = 2 ∧ FnOk P w K mg base (L2.CX P w) k f fd ps (spD K 2 ct) ∧ PySem.W.findIn K (.ref C) "__eq__" = some (some (.ref f)) ∧ PySem.W.isFn K (.ref f) = true ∧ Binds K fd ps []
def ownD (C : Addr) (ct : Ct) (d e : D) (μ : List Ob) : R D := match d.view μ, e.view μ with
  | .ins C1 _ _, .ins C2 _ _ => if C1 = C ∧ C2 = C then (match ct [d, e] μ with
    | .ok (.bl k) μ1 => .ok (.bl k) μ1
    | _ => .bad) else .bad
  | _, _ => .bad
theorem op2_own {K : PySem.W.Frag} {C : Addr} {ct : Ct} : Op2 K (rOwn C (spD K 2 ct) E0) (ownD C ct) := fun γ α F H μ x y d e Q E w hx hy q => by
  unfold ownD at q
  have v1 := w.view hx
  have v2 := w.view hy
  cases hd : d.view μ with
  | ins C1 fs xs =>
    rw [hd] at q v1
    cases he : e.view μ with
    | ins C2 gs ys =>
      rw [he] at q v2
      simp only at q
      split at q
      · rename_i hC
        obtain ⟨rfl, rfl⟩ := hC
        obtain ⟨a, dx, fv, rfl, h1, _, _⟩ := v1
        obtain ⟨b, dy, gv, rfl, h3, _, _⟩ := v2
        refine ⟨a, b, dx, dy, fv, gv, rfl, rfl, h1, h3, rfl, γ, α, F, μ, [d, e], w, .cons hx (.cons hy .nil), ?_⟩
        cases hc : ct [d, e] μ with
        | bad => rw [hc] at q; exact q.elim
        | exc x μ1 => rw [hc] at q; exact q.elim
        | ok z μ1 =>
          rw [hc] at q
          cases z with
          | bl k => exact fun α' F' H' p e' w' v hv => ⟨⟨k, by cases hv; rfl⟩, q α' F' H' p e' w' v hv⟩
          | _ => exact q.elim
      · exact q.elim
    | _ => rw [he] at q; exact q.elim
  | _ => rw [hd] at q; exact q.elim
section
variable {X : Cx} {W : WX} {k j : Nat} {C : Addr} {ct : Ct} {a b : Expr} {fa fb : RE} {pos : Pos}
theorem pdt_own (c : Ceq X.prog X.w X.K X.mg X.base k C ct) (g : Good X W j) (ha : PD X W a fa) (hb : PD X W b fb) (hk : k ≤ j := by decide) (hm : behindInMarks .Eq b = false := by rfl) : PDT X W (.Compare a [.Eq] [b] pos) (rT (rBin (ownD C ct) fa fb)) := by
  obtain ⟨f, fd, ps, hn, F, hs, hf, hbd⟩ := c.ex
  exact pdt_cmp (op_own F (g.hr.mono hk) hs hf hbd passL) op2_own hm ha hb
theorem pd_own (c : Ceq X.prog X.w X.K X.mg X.base k C ct) (g : Good X W j) (ha : PD X W a fa) (hb : PD X W b fb) (hk : k ≤ j := by decide) (hm : behindInMarks .Eq b = false := by rfl) : PD X W (.Compare a [.Eq] [b] pos) (rBin (ownD C ct) fa fb) := by
  obtain ⟨f, fd, ps, hn, F, hs, hf, hbd⟩ := c.ex
  exact pd_cmp (op_own F (g.hr.mono hk) hs hf hbd passL) op2_own hm ha hb
end
end DL

/-! The data layer, k: a module's dict; dict comprehensions. -/
namespace DL
open PySem L2

/-! ### a dict that a module's top has written -/
def EntIs (e : DictEntry) (p : Key × V) : Prop := (∃ x t, e.key = .str x t ∧ p.1 = .inr x) ∧ RelV p.2 e.val
structure KDat (K : PySem.W.Frag) (w : World) (a : Addr) (kvs : List (Key × V)) : Prop where
  ex : ∃ (es : Array DictEntry) (n : Nat), K.lookup a = some ⟨.type "dict", none, .dict es n, #[]⟩ ∧ PySem.W.KeysLit w.params es.toList ∧ Paired EntIs es.toList kvs
  low : (a == sysModules) = false
  nd : (kvs.map (·.1)).Nodup
  sz : kvs.length ≤ sizeLine
section
variable {X : Cx} {pins : List (Addr × Obj)} {σ : St} {H : Hp} {s : Shared} {a : Addr} {kvs : List (Key × V)}
theorem ents_pairs {P : Program} {w : World} : ∀ {es : List DictEntry} {kvs : List (Key × V)}, Paired EntIs es kvs → ∃ vs, Pairs (mixKind P w) es vs ∧ KV kvs vs ∧ vs.map (·.1) = kvs.map (·.1)
  | _, _, .nil => ⟨[], .nil, .nil, rfl⟩
  | e :: _, p :: _, .cons h t => by
    obtain ⟨vs, h1, h2, h3⟩ := ents_pairs (P := P) (w := w) t
    obtain ⟨⟨x, tk, e1, e2⟩, r⟩ := h
    refine ⟨(p.1, e.val) :: vs, .cons ?_ rfl h1, .cons ⟨rfl, r⟩ h2, by rw [List.map_cons, List.map_cons, h3]⟩
    show keyIs p.1 e.key = true
    rw [e1, e2]
    exact keyIs_str x tk
theorem kdat_at (D : KDat X.K X.w a kvs) (I : Inv X pins σ H s) : ∃ (o : Obj) (es : Array DictEntry) (ep : Nat) (vs : List (Key × Value)), s.heap.get? a = some o ∧ o.ExactDict ∧ o.data = .dict es ep ∧ es.size = kvs.length ∧ KV kvs vs ∧ s.heap.DictAt (mixKind X.prog X.w) a vs ep := by
  obtain ⟨es, n, h1, h2, h3⟩ := D.ex
  obtain ⟨vs, p1, p2, p3⟩ := ents_pairs (P := X.prog) (w := X.w) h3
  have hg := I.kIn _ _ h1
  refine ⟨_, es, n, vs, hg, ⟨rfl, rfl, rfl⟩, rfl, ?_, p2, _, es, hg, ⟨rfl, rfl, rfl⟩, rfl, fun e he => ?_, p1, ?_⟩
  · have := h3.length
    rw [Array.length_toList] at this
    exact this
  · obtain ⟨x, t, e1, e2⟩ := h2.all e (Array.mem_toList_iff.mpr he)
    exact ⟨.inr x, by rw [e1]; exact keyIs_str x t, e2⟩
  · have e : vs.map (·.1) = kvs.map (·.1) := p3
    rw [e]
    exact D.nd

/-! ### len, list -/
theorem call_lenP (D : KDat X.K X.w a kvs) : CallR X (.builtin "len") (fun xs H Q => xs = [V.ref a] ∧ Q (.int kvs.length) H) := by
  intro pins s σ H xs us Q I r q
  obtain ⟨rfl, q⟩ := q
  obtain ⟨u, rfl, ru⟩ := vals1 r
  cases ru
  obtain ⟨o, es, ep, vs, _, _, _, _, kk, dd⟩ := kdat_at D I
  have hl : kvs.length = vs.length := Paired.length kk
  have h0 := sizeLine_eq
  have h1 := D.sz
  exact call_len_dict D.low dd.dictOf (by omega) ⟨.int kvs.length, H, I.tok _, ⟨_, by rw [hl]⟩, q⟩
theorem call_listP (hc : X.calm = true) (D : KDat X.K X.w a kvs) : CallR X (.type "list") (fun xs H Q => xs = [.ref a] ∧ ∀ p, H p = none → Q (.ref p) (upd H p (.lst (kvs.map fun kv => kV kv.1)))) := by
  intro pins s σ H xs us Q I r q
  obtain ⟨rfl, q⟩ := q
  obtain ⟨u, rfl, ru⟩ := vals1 r
  cases ru
  obtain ⟨o, es, ep, vs, _, _, _, _, kk, dd⟩ := kdat_at D I
  have ek : (kvs.map fun kv => kV kv.1) = vs.map fun p => kV p.1 := by
    have z := congrArg (List.map kV) kk.keys
    rw [List.map_map, List.map_map] at z
    exact z
  refine PySem.W.kdl_call (PySem.W.kdl_dict (knd := mixKind X.prog X.w) (kvs := vs) (ep := ep) D.low) (I.ok.hd hc) dd (by rw [← Paired.length kk]; exact D.sz) fun h' tk acc c' hk hD hacc => ?_
  have hv : Vals (vs.map fun p => kV p.1) acc.toList := keys_at (by rw [Array.length_toList]; exact hacc.1) fun j v z => hacc.2 j v (by rw [← Array.getElem?_toList]; exact z)
  have hnew : ObjOk X.prog X.w (upd H s.heap.objs.size (.lst (kvs.map fun kv => kV kv.1))) h' s.heap.objs.size (.lst (kvs.map fun kv => kV kv.1)) :=
    ⟨by rw [List.length_map]; exact D.sz, acc.toList, c', by rw [ek]; exact hv, by rw [Array.toArray_toList]; exact hD⟩
  exact ⟨.ref s.heap.objs.size, _, I.laid (t' := tk) hk (Nat.le_refl _) hnew, rfl, q _ (I.hok.fresh (Nat.le_refl _))⟩
end
/-- the built-ins on the dict at a, n keys -/
def onP (a : Addr) (g : List Ob → R D) : List D → List Ob → R D := fun ds μ => match ds with
  | [.vv (.ref b)] => if b = a then g μ else .bad
  | _ => .bad
section
variable {K : PySem.W.Frag} {a : Addr} {kvs : List (Key × V)}
theorem opn_lenP : Opn K (fun xs H Q => xs = [V.ref a] ∧ Q (.int kvs.length) H) (onP a fun μ => .ok (.int (kvs.length : Nat)) μ) := fun γ α F H μ vs ds Q E w hv q => by
  unfold onP at q
  split at q
  · split at q
    · rename_i b hb
      subst hb
      obtain ⟨v, rfl, h⟩ := hv.one
      have e := Is.toVv h
      subst e
      exact ⟨rfl, fin_ok w (.int _) q⟩
    · exact q.elim
  · exact q.elim
theorem opn_listP : Opn K (fun xs H Q => xs = [.ref a] ∧ ∀ p, H p = none → Q (.ref p) (upd H p (.lst (kvs.map fun kv => kV kv.1)))) (onP a fun μ => .ok (.lst ((kvs.map (·.1)).map Key.d)) μ) := fun γ α F H μ vs ds Q E w hv q => by
  unfold onP at q
  split at q
  · split at q
    · rename_i b hb
      subst hb
      obtain ⟨v, rfl, h⟩ := hv.one
      have e := Is.toVv h
      subst e
      refine ⟨rfl, fun p hp => ?_⟩
      have l : IsL K α F (kvs.map fun kv => kV kv.1) ((kvs.map (·.1)).map Key.d) := by
        have := keys_is (K := K) (α := α) (F := F) (kvs.map (·.1))
        rw [List.map_map] at this
        exact this
      exact fin_lay w hp (.lst upd_same (l.mono (List.prefix_refl _) (same_new (w.sub.free hp)))) q
    · exact q.elim
  · exact q.elim
end

/-! ### walked: its keys, its pairs -/
def ItkP (kvs : List (Key × V)) : It := ⟨fun i _ => i < kvs.length, fun i H x H' => H' = H ∧ ∃ k v, kvs[i]? = some (k, v) ∧ x = kV k, fun i _ => kvs.length ≤ i⟩
def ItiP (kvs : List (Key × V)) : It := ⟨fun i _ => i < kvs.length, fun i H x H' => ∃ T k v, kvs[i]? = some (k, v) ∧ x = .ref T ∧ H T = none ∧ H' = upd H T (.tup [kV k, v]), fun i _ => kvs.length ≤ i⟩
section
variable {P : Program} {w : World} {K : PySem.W.Frag} {tg : Expr} {d : Addr} {ep : Nat} {kvs : List (Key × V)}
theorem same_ep {h : Heap} {o : Obj} {es es' : Array DictEntry} {ep ep' : Nat} (h1 : o.data = .dict es ep) (h2 : o.data = .dict es' ep') : ep' = ep := by
  rw [h1] at h2
  injection h2 with _ e
  exact e.symm
/-- the entries' place is the written one -/
theorem kdat_ep {X : Cx} {pins : List (Addr × Obj)} {σ : St} {H : Hp} {s : Shared} {a : Addr} (D : KDat X.K X.w a kvs) (I : Inv X pins σ H s) (es0 : Array DictEntry) (h0 : X.K.lookup a = some ⟨.type "dict", none, .dict es0 ep, #[]⟩) :
    ∃ (o : Obj) (vs : List (Key × Value)), s.heap.get? a = some o ∧ o.ExactDict ∧ o.data = .dict es0 ep ∧ es0.size = kvs.length ∧ KV kvs vs ∧ s.heap.DictAt (mixKind X.prog X.w) a vs ep := by
  obtain ⟨o, es, ep', vs, h1, h2, h3, h4, h5, h6⟩ := kdat_at D I
  have h7 := I.kIn _ _ h0
  rw [h1] at h7
  have e := Option.some.inj h7
  subst e
  injection h3 with e1 e2
  subst e1
  subst e2
  exact ⟨_, vs, h1, h2, rfl, h4, h5, h6⟩
theorem turn_keysP {es : Array DictEntry} (it : Addr) (D : KDat K w d kvs) (h0 : K.lookup d = some ⟨.type "dict", none, .dict es ep, #[]⟩) : Turn P w K tg (ItkP kvs) [it] it (fun i h => h.IsKeyIter it d i kvs.length ep) where
  mem := by simp
  obj := fun i h st b hb => by
    have e : b = it := by simpa using hb
    subst e
    obtain ⟨oi, e, c, dd⟩ := st
    exact ⟨oi, e, fun v z => by rw [dd] at z; cases z⟩
  keep := fun i h h' st k => st.at fun oi e => k it (by simp) oi e
  item := by
    intro X hP hw hK hc i pins s σ H E I hf st hg
    subst hP hw hK
    have hi : i < kvs.length := hg
    obtain ⟨f0, f1, f2, f3, f4, f5⟩ := hf it (by simp)
    obtain ⟨o, vs, hgd, hx, hdt, hsz, kv, hm⟩ := kdat_ep D I es h0
    obtain ⟨⟨k, v⟩, hkv⟩ : ∃ p, kvs[i]? = some p := ⟨kvs[i], List.getElem?_eq_getElem hi⟩
    obtain ⟨u, hu, ru⟩ := kv_get kv hkv
    have hl : kvs.length = vs.length := Paired.length kv
    rw [hl] at st
    refine wpAny_pyNext_dict_item st hm hu fun key h' hkey st' sb => ?_
    have I1 : Inv X pins σ H { s with heap := h' } := I.turned (t' := s.toks) (fun b ob hb e => (sb.2 b hb).trans e) f0 f1 f3 f4 f5
    obtain ⟨oi, e, c, dd⟩ := id st'
    refine ⟨key, rfl, go_of (s := { s with heap := h' }) e c dd (by decide) ⟨kV k, H, I1, relV_key (show keyIs k key = true from hkey), ⟨rfl, k, v, hkv, rfl⟩, ?_, fun b hb => (hf b hb).1⟩⟩
    show h'.IsKeyIter it d (i + 1) kvs.length _
    rw [hl]
    exact st'
  done := by
    intro X hP hw hK hc i pins s σ H E I hf st hg
    subst hP hw hK
    obtain ⟨f0, f1, f2, f3, f4, f5⟩ := hf it (by simp)
    obtain ⟨o, vs, hgd, hx, hdt, hsz, kv, hm⟩ := kdat_ep D I es h0
    exact next_key_end (I.ok.hd hc) st hgd hdt hsz hg fun h' eb => ⟨rfl, I.turned (t' := s.toks) (fun b ob hb e => eb b ob hb e) f0 f1 f3 f4 f5⟩
  self := fun A i s Q E st h => wpAny_pyIter_keyiter st h
theorem turn_itemsP {es : Array DictEntry} {elts : List Expr} {kk : Nat} {tpos : Pos} (it : Addr) (D : KDat K w d kvs) (h0 : K.lookup d = some ⟨.type "dict", none, .dict es ep, #[]⟩) :
    Turn P w K (.Tuple elts kk tpos) (ItiP kvs) [it] it (fun i h => ∃ ok ov, IsItemIter h it d i kvs.length ep ok ov) where
  mem := by simp
  obj := fun i h st b hb => by
    have e : b = it := by simpa using hb
    subst e
    obtain ⟨ok, ov, e⟩ := st
    exact ⟨_, e, fun v z => nomatch z⟩
  keep := fun i h h' st k => let ⟨ok, ov, e⟩ := st; ⟨ok, ov, k it (by simp) _ e⟩
  item := by
    intro X hP hw hK hc i pins s σ H E I hf st hg
    subst hP hw hK
    have hi : i < kvs.length := hg
    obtain ⟨o, vs, hgd, hx, hdt, hsz, kv, hm⟩ := kdat_ep D I es h0
    obtain ⟨⟨k, v⟩, hkv⟩ : ∃ p, kvs[i]? = some p := ⟨kvs[i], List.getElem?_eq_getElem hi⟩
    obtain ⟨u, hu, ru⟩ := kv_get kv hkv
    have hl : kvs.length = vs.length := Paired.length kv
    obtain ⟨ok, ov, he⟩ := st
    rw [hl] at he
    have hlt : it < s.heap.objs.size := Heap.lt_size he
    refine wpAny_pyNext_items_item he hm hu fun key h' hkey ho hT hz hk => ?_
    refine ⟨_, rfl, wpAny_letOwnedTupleGo_items (s := { s with heap := h' }) ho fun h'' he' sb => ?_⟩
    have hT2 : h''.get? s.heap.objs.size = some { cls := .type "tuple", data := .seq #[key, u] } := (sb.2 _ (Nat.ne_of_gt hlt)).trans hT
    have new : ObjOk X.prog X.w (upd H s.heap.objs.size (.tup [kV k, v])) h'' s.heap.objs.size (.tup [kV k, v]) :=
      ⟨by show 2 ≤ sizeLine; decide, [key, u], .cons (relV_key (show keyIs k key = true from hkey)) (.cons ru .nil), ⟨_, hT2, rfl, _, rfl⟩⟩
    have I1 : Inv X pins σ (upd H s.heap.objs.size (.tup [kV k, v])) { s with heap := h'' } :=
      I.turnedNew (t' := s.toks) (ch := [it]) (fun b ob hb e => (sb.2 b (by simpa using hb)).trans (hk b ob (by simpa using hb) e)) hf (Nat.le_refl _) new
    refine ⟨.ref s.heap.objs.size, _, I1, rfl, ⟨_, k, v, hkv, rfl, I.hok.fresh (Nat.le_refl _), rfl⟩, ⟨key, u, ?_⟩, fun b hb => ?_⟩
    · rw [hl]; exact he'
    · have e : b = it := by simpa using hb
      rw [e, upd_ne (Nat.ne_of_lt hlt)]
      exact (hf it (by simp)).1
  done := by
    intro X hP hw hK hc i pins s σ H E I hf st hg
    subst hP hw hK
    obtain ⟨f0, f1, f2, f3, f4, f5⟩ := hf it (by simp)
    obtain ⟨o, vs, hgd, hx, hdt, hsz, kv, hm⟩ := kdat_ep D I es h0
    have hl : kvs.length = vs.length := Paired.length kv
    have hge : kvs.length ≤ i := hg
    obtain ⟨ok, ov, he⟩ := st
    rw [hl] at he
    exact wpAny_pyNext_items_end (I.ok.hd hc) he hm (List.getElem?_eq_none (by omega)) fun h' eb => ⟨rfl, I.turned (t' := s.toks) (fun b ob hb e => eb b ob hb e) f0 f1 f3 f4 f5⟩
  self := fun A i s Q E st h => let ⟨_, _, e⟩ := st; PySem.W.kcp_self e h
end
section
variable {X : Cx} {tg e : Expr} {td : TE} {apos cpos : Pos} {a : Addr} {kvs : List (Key × V)}
theorem pi_keysP (D : KDat X.K X.w a kvs) (he : PE X e td) : PI X tg e (fun σ H R => td σ H fun x H1 => x = .ref a ∧ R (ItkP kvs) H1) := by
  refine ⟨fun pins s σ H R I h => ?_⟩
  refine thn (he.run pins s σ H _ I h) fun u s1 ⟨x, H1, I1, rx, ex, q⟩ => ?_
  subst ex
  obtain rfl : u = Value.ref a := rx
  obtain ⟨es, n, h0, h1, h2⟩ := D.ex
  obtain ⟨o, vs, hgd, hx, hdt, hsz, kv, hm⟩ := kdat_ep D I1 es h0
  refine iter_keys D.low hgd hx hdt (pi_one (tk := s1.toks) I1 _ (turn_keysP _ D h0) ⟨_, Heap.get?_push_size _ rfl, rfl, ?_⟩ q)
  rw [hsz] <;> rfl
theorem pi_itemsP {elts : List Expr} {kk : Nat} {tpos : Pos} (D : KDat X.K X.w a kvs) (he : PE X e td) (hbase : attributeBase e "items" X.env (eval e X.env) = eval e X.env := by rfl) (hline : (apos.endLine == cpos.line) = true := by rfl) :
    PI X (.Tuple elts kk tpos) (.Call (.Attribute e "items" apos) [] [] cpos) (fun σ H R => td σ H fun x H1 => x = .ref a ∧ R (ItiP kvs) H1) := by
  refine ⟨fun pins s σ H R I h => ?_⟩
  refine wpAny_Call_method (T := "dict") (id := "dict.items") hbase rfl hline F.plainAttrs_dict F.slot_dict_items F.type_dict_items (thn (he.run pins s σ H _ I h) fun u s1 ⟨x, H1, I1, rx, ex, q⟩ => ?_)
  subst ex
  obtain rfl : u = Value.ref a := rx
  obtain ⟨es, n, h0, h1, h2⟩ := D.ex
  obtain ⟨o, vs, hgd, hx, hdt, hsz, kv, hm⟩ := kdat_ep D I1 es h0
  have hl : kvs.length = vs.length := Paired.length kv
  refine ⟨hm.dictOf.typeIs, hm.dictOf.mapOf.noDict, ?_⟩
  have I2 : Inv X pins σ H1 { s1 with heap := s1.heap.push { cls := .type "dict_items", data := .fields #[.ref a] } } := I1.kept (t' := s1.toks) fun b ob q => Heap.get?_push_of_some _ q
  have fin : wpAny (model X.prog X.w) X.A (pyIter (.ref s1.heap.objs.size)) (PIE X pins σ (.Tuple elts kk tpos) R) X.xe { s1 with heap := s1.heap.push { cls := .type "dict_items", data := .fields #[.ref a] } } := by
    refine wpAny_pyIter_items (d := a) (knd := mixKind X.prog X.w) ⟨_, Heap.get?_push_size _ rfl, rfl, rfl⟩ (hm.push _) (pi_one (tk := s1.toks) I2 _ (turn_itemsP _ D h0) ⟨.none, .none, ?_⟩ q)
    rw [hl]
    exact Heap.get?_push_size _ rfl
  show wpAny _ _ (callWith cpos (.builtin "dict.items") [.ref a] [] []) _ X.xe s1
  exact method_meetsIn F.slot_dict_items F.entry_dict_items rfl (PySem.evalArgs_none ⟨rfl, hm.dictOf.typeIs, F.args_dict_items_1 _, _, meets_dict_items (mixKind X.prog X.w) a D.low, ⟨vs, hm.dictOf⟩, fin⟩)
end
section
variable {K : PySem.W.Frag} {γ : Hp} {α : List Addr} {F H : Hp} {μ : List Ob} {kvs : List (Key × V)} {xs : List D}
theorem walk_keysP : WalkD K α F (ItkP kvs) ((kvs.map (·.1)).map Key.d) := fun i γ α' F' H μ p e w => by
  refine ⟨fun d hd => ?_, fun hi => ?_⟩
  · rw [List.getElem?_map, List.getElem?_map] at hd
    cases hk : kvs[i]? with
    | none => rw [hk] at hd; cases hd
    | some kv =>
      rw [hk] at hd
      cases hd
      refine ⟨(List.getElem?_eq_some_iff.mp hk).1, fun x H' ⟨e1, k, v, e2, e3⟩ => ?_⟩
      rw [hk] at e2
      cases e2
      subst e1 e3
      exact ⟨F', Same.refl F', w, key_is⟩
  · rw [List.length_map, List.length_map] at hi
    exact Nat.le_of_eq hi.symm
/-- the pairs as data -/
def pairsP (ks : List Key) (xs : List D) : List D := List.zipWith (fun k x => D.tup [Key.d k, x]) ks xs
theorem walk_itemsP (l : ∀ α F, IsL K α F (kvs.map (·.2)) xs) : WalkD K α F (ItiP kvs) (pairsP (kvs.map (·.1)) xs) := fun i γ α' F' H μ p e w => by
  have hl : kvs.length = xs.length := by
    have := (l α F).length
    rw [List.length_map] at this
    exact this
  refine ⟨fun d hd => ?_, fun hi => ?_⟩
  · unfold pairsP at hd
    rw [List.getElem?_zipWith, List.getElem?_map] at hd
    cases hk : kvs[i]? with
    | none => rw [hk] at hd; cases hd
    | some kv =>
      rw [hk] at hd
      cases hx : xs[i]? with
      | none => rw [hx] at hd; cases hd
      | some x =>
        rw [hx] at hd
        cases hd
        refine ⟨(List.getElem?_eq_some_iff.mp hk).1, fun y H' ⟨T, k, v, e2, e3, e4, e5⟩ => ?_⟩
        rw [hk] at e2
        cases e2
        subst e3 e5
        have ft : F' T = none := w.sub.free e4
        obtain ⟨u, hu, iu⟩ := (l α' (upd F' T (.tup [kV k, v]))).get (i := i) (d := x) hx
        rw [List.getElem?_map, hk] at hu
        cases hu
        exact ⟨_, same_new ft, w.lay e4, .tup (.inl (.inl upd_same)) (.cons key_is (.cons iu .nil))⟩
  · unfold pairsP at hi
    rw [List.length_zipWith, List.length_map] at hi
    show kvs.length ≤ i
    omega
end
def rP (a : Addr) (ds : List D) (f : RE) : RA := fun δ μ => (f δ μ).bind fun d μ1 => match d with
  | .vv (.ref b) => if b = a then .ok ds μ1 else .bad
  | _ => .bad
section
variable {X : Cx} {W : WX} {tg e : Expr} {f : RE} {apos cpos : Pos} {a : Addr} {kvs : List (Key × V)} {xs : List D}
theorem tD_P {K : PySem.W.Frag} {ds : List D} {J : It} (hw : ∀ α F, WalkD K α F J ds) (σ : St) (H : Hp) (R : It → Hp → Prop) : tDI K W (rP a ds f) σ H R → tD K W f σ H fun x H1 => x = .ref a ∧ R J H1 := fun ⟨γ, α, F, μ, δ, w, s, q⟩ =>
  tD_go w s q fun d μ1 α1 F1 H1 v p1 e1 w1 s1 hv q1 => by
    split at q1
    · split at q1
      · rename_i b hb
        subst hb
        have e := Is.toVv hv
        subst e
        exact ⟨rfl, q1 α1 F1 H1 (List.prefix_refl _) (Same.refl F1) w1 J (hw _ _)⟩
      · exact q1.elim
    · exact q1.elim
theorem pdi_keysP (D : KDat X.K X.w a kvs) (he : PD X W e f) : PDI X W tg e (rP a ((kvs.map (·.1)).map Key.d) f) := pi_weak (pi_keysP D he) (tD_P fun _ _ => walk_keysP)
theorem pdi_itemsP {elts : List Expr} {kk : Nat} {tpos : Pos} (D : KDat X.K X.w a kvs) (l : ∀ α F, IsL X.K α F (kvs.map (·.2)) xs) (he : PD X W e f) (hbase : attributeBase e "items" X.env (eval e X.env) = eval e X.env := by rfl) (hline : (apos.endLine == cpos.line) = true := by rfl) :
    PDI X W (.Tuple elts kk tpos) (.Call (.Attribute e "items" apos) [] [] cpos) (rP a (pairsP (kvs.map (·.1)) xs) f) := pi_weak (pi_itemsP D he hbase hline) (tD_P fun _ _ => walk_itemsP l)
end
end DL

/-! The data layer, l: dict comprehensions whose dict stands still. -/
namespace DL
open PySem L2
def dcL (t : Tg) (vs : List Nat) (ft : RT) (fk fe : RE) : List D → Sl → List Ob → List Key → List D → R (List Key × List D)
  | [], _, μ, ks, xs => .ok (ks, xs) μ
  | x :: r, δ, μ, ks, xs => match t.set x (wipeD δ vs) with
    | none => .bad
    | some δ1 => match ft δ1 μ with
      | .ok false μ2 => dcL t vs ft fk fe r δ μ2 ks xs
      | .ok true μ2 => match fk δ1 μ2 with
        | .ok dk μ3 => match dk.key with
          | some k => match fe δ1 μ3 with
            | .ok d μ4 => if ks.length < 16777216 then dcL t vs ft fk fe r δ μ4 (putKs ks k) (putXs ks xs k d) else .bad
            | _ => .bad
          | none => .bad
        | _ => .bad
      | _ => .bad
def rDc (fi : RA) (t : Tg) (vs : List Nat) (ft : RT) (fk fe : RE) : RE := fun δ μ => (fi δ μ).bind fun ds μ1 => (dcL t vs ft fk fe ds δ μ1 [] []).bind fun p μ2 => .ok (.dct p.1 p.2) μ2
section
variable {K : PySem.W.Frag} {W : WX}
theorem tD_dc {fi : RA} {t : Tg} {vs : List Nat} {ft : RT} {fk fe : RE} (hv : ∀ i ∈ t.slots, i ∈ vs) (σ : St) (H : Hp) (Q : VK) (h : tD K W (rDc fi t vs ft fk fe) σ H Q) :
    tDc (tDI K W fi) (t.rd K) (tDT K W0 ft) (tD K W0 fk) (tD K W0 fe) vs σ H (fun v H1 => ∃ a kvs, v = .ref a ∧ H1 a = some (.dK kvs) ∧ ∀ o, Q v (upd H1 a (.frz o (.dK kvs)))) := by
  obtain ⟨γ, α, F, μ, δ, w, s, q⟩ := h
  refine ⟨γ, α, F, μ, δ, w, s, ?_⟩
  unfold rDc at q
  cases hf : fi δ μ with
  | bad => rw [hf] at q; exact q
  | exc x μ1 => rw [hf] at q; exact q
  | ok ds μ1 =>
    rw [hf] at q
    intro α1 F1 H1 p1 e1 w1 J hJ Dl hD
    have q1 := Fin.up p1 e1 q
    have s1 := s.mono p1 e1
    rw [R.ok_bind] at q1
    have gD : γ Dl = none := w1.gs.free hD
    refine ⟨fun i m H => m = ds.length - i ∧ i ≤ ds.length ∧ ∃ α' F' μ' xs kvs, Wd K (upd γ Dl (.dK kvs)) α' F' H μ' ∧ SlIs K α' F' σ δ ∧ WalkD K α' F' J ds ∧ IsL K α' F' (kvs.map (·.2)) xs ∧
        Fin K γ α' F' ((dcL t vs ft fk fe (ds.drop i) δ μ' (kvs.map (·.1)) xs).bind fun p μ2 => .ok (.dct p.1 p.2) μ2) (okD K Q) (fun c dd H' => W c dd σ H'),
      ⟨ds.length, by simp, Nat.zero_le _, α1, F1, μ1, [], [], w1.gnew hD, s1, hJ, .nil, by rw [List.drop_zero]; exact q1⟩, ?_⟩
    rintro i m H2 ⟨rfl, hi, α2, F2, μ2, acc, kvs, w2, s2, hJ2, hl, q2⟩
    obtain ⟨j1, j2⟩ := hJ2 i _ α2 F2 H2 μ2 (List.prefix_refl _) (Same.refl F2) w2
    by_cases hlt : i < ds.length
    · obtain ⟨hgo, hy⟩ := j1 ds[i] (List.getElem?_eq_getElem hlt)
      rw [List.drop_eq_getElem_cons hlt] at q2
      unfold dcL at q2
      right
      refine ⟨hgo, fun H' => i + 1 ≤ ds.length ∧ ∃ α' F' μ' xs kvs, Wd K (upd γ Dl (.dK kvs)) α' F' H' μ' ∧ SlIs K α' F' σ δ ∧ WalkD K α' F' J ds ∧ IsL K α' F' (kvs.map (·.2)) xs ∧
          Fin K γ α' F' ((dcL t vs ft fk fe (ds.drop (i + 1)) δ μ' (kvs.map (·.1)) xs).bind fun p μ2 => .ok (.dct p.1 p.2) μ2) (okD K Q) (fun c dd H' => W c dd σ H'),
        fun H' n => ⟨ds.length - (i + 1), by omega, rfl, n.1, n.2⟩, fun x H3 y => ?_⟩
      obtain ⟨F3, e3, w3, hx⟩ := hy x H3 y
      have q3 := Fin.up (List.prefix_refl _) e3 q2
      have s3 := s2.mono (List.prefix_refl _) e3
      cases ht : t.set ds[i] (wipeD δ vs) with
      | none => rw [ht] at q3; exact q3.elim
      | some δ3 =>
        rw [ht] at q3
        refine Tg.go w3 (s3.wipe vs) hx ht fun σ4 s4 hw4 _ => ⟨?_, ?_⟩
        · rw [hw4 vs hv]
          exact wipe_wipe σ vs
        · refine ⟨_, α2, F3, μ2, δ3, w3, s4, ?_⟩
          dsimp only at q3
          cases hft : ft δ3 μ2 with
          | bad => rw [hft] at q3; exact q3.elim
          | exc x μ4 => rw [hft] at q3; exact q3.elim
          | ok b μ4 =>
            rw [hft] at q3
            intro α4 F4 H4 p4 e4 w4
            have q4 := Fin.up p4 e4 q3
            cases b with
            | false =>
              exact iteF ⟨hlt, α4, F4, μ4, acc, kvs, w4, s3.mono p4 e4, hJ2.mono p4 (e3.trans e4), hl.mono p4 (e3.trans e4), q4⟩
            | true =>
              refine iteT ⟨_, α4, F4, μ4, δ3, w4, s4.mono p4 e4, ?_⟩
              dsimp only at q4
              cases hfk : fk δ3 μ4 with
              | bad => rw [hfk] at q4; exact q4.elim
              | exc x μ5 => rw [hfk] at q4; exact q4.elim
              | ok dk μ5 =>
                rw [hfk] at q4
                intro α5 F5 H5 p5 e5 w5 v hvk
                have q5 := Fin.up p5 e5 q4
                dsimp only at q5
                cases hk : dk.key with
                | none => rw [hk] at q5; exact q5.elim
                | some k =>
                  rw [hk] at q5
                  have ek := key_kV hvk hk
                  refine ⟨_, α5, F5, μ5, δ3, w5, (s4.mono p4 e4).mono p5 e5, ?_⟩
                  dsimp only at q5
                  cases hfe : fe δ3 μ5 with
                  | bad => rw [hfe] at q5; exact q5.elim
                  | exc x μ6 => rw [hfe] at q5; exact q5.elim
                  | ok z μ6 =>
                    rw [hfe] at q5
                    intro α6 F6 H6 p6 e6 w6 u huz
                    have q6 := Fin.up p6 e6 q5
                    dsimp only at q6
                    by_cases hz : (kvs.map (·.1)).length < 16777216
                    · rw [if_pos hz] at q6
                      rw [List.length_map] at hz
                      have hl6 := hl.mono (p4.trans (p5.trans p6)) (e3.trans (e4.trans (e5.trans e6)))
                      refine ⟨kvs, k, ek, w6.gs _ _ upd_same, by rw [sizeLine_eq]; exact hz, hlt, α6, F6, μ6, _, putK kvs k u, w6.gput gD, ((s3.mono p4 e4).mono p5 e5).mono p6 e6, hJ2.mono (p4.trans (p5.trans p6)) (e3.trans (e4.trans (e5.trans e6))), putK_vals hl6 huz, ?_⟩
                      rw [putK_keys]
                      exact q6
                    · rw [if_neg hz] at q6; exact q6.elim
    · have e : i = ds.length := by omega
      subst e
      rw [List.drop_length] at q2
      left
      refine ⟨j2 rfl, Dl, kvs, rfl, w2.gs _ _ upd_same, fun o => ?_⟩
      unfold dcL at q2
      have w3 := w2.gput (o' := .frz o (.dK kvs)) gD
      have fD : F2 Dl = none := w3.gf Dl (by rw [upd_same]; exact Option.some_ne_none _)
      have sn := same_new (o := .frz o (.dK kvs)) fD
      exact q2 α2 _ _ (List.prefix_refl _) sn (w3.gfrz gD) _ (.dct ⟨o, upd_same⟩ rfl (hl.mono (List.prefix_refl _) sn))
end
section
variable {X : Cx} {W : WX} {k : Nat}
theorem pd_dc {kx vx tg iter : Expr} {ifs : List Expr} {scope : Scope} {own : List (Str × Nat)} {pos : Pos} {fi : RA} {t : Tg} {ft : RT} {fk fe : RE} (g : Good X W k) (hi : PDI X W tg iter fi) (ok : BlkOk X.N X.env.scope scope own) (hv : ∀ i ∈ t.slots, i ∈ own.map (·.2))
    (hg : ∀ (s : Shared) (H : Hp) (C : Addr) (cl : List (Str × Addr)) (fp : List Addr), PDG (X.blk s H scope (compEnvC scope cl C X.env) fp) tg t)
    (ht : ∀ (s : Shared) (H : Hp) (C : Addr) (cl : List (Str × Addr)) (fp : List Addr), Good (X.blk s H scope (compEnvC scope cl C X.env) fp) W0 k → PDTs (X.blk s H scope (compEnvC scope cl C X.env) fp) W0 ifs ft)
    (hk : ∀ (s : Shared) (H : Hp) (C : Addr) (cl : List (Str × Addr)) (fp : List Addr), Good (X.blk s H scope (compEnvC scope cl C X.env) fp) W0 k → PD (X.blk s H scope (compEnvC scope cl C X.env) fp) W0 kx fk)
    (he : ∀ (s : Shared) (H : Hp) (C : Addr) (cl : List (Str × Addr)) (fp : List Addr), Good (X.blk s H scope (compEnvC scope cl C X.env) fp) W0 k → PD (X.blk s H scope (compEnvC scope cl C X.env) fp) W0 vx fe)
    (hs : ∀ x, foldedSetIterable iter X.env x = pure x := by intro _; rfl) : PD X W (.DictComp kx vx [⟨tg, iter, ifs, 0⟩] scope pos) (rDc fi t (own.map (·.2)) ft fk fe) :=
  pe_weak (pe_frz (pe_dc g.calm g.nd hi ok hg (fun s H C cl fp => ht s H C cl fp (g.blk s H scope _ fp)) (fun s H C cl fp => hk s H C cl fp (g.blk s H scope _ fp)) (fun s H C cl fp => he s H C cl fp (g.blk s H scope _ fp)) hs)) fun σ H Q h => tD_dc (ft := ft) (fk := fk) (fe := fe) hv σ H Q h
end
end DL

/-! The data layer, m: defs and classes of the text as facts; short rules for printed derivations. -/
namespace DL
open PySem L2

/-- a def of the text stands under its name -/
structure Df (K : PySem.W.Frag) (mg : Str → Option Value) (x : Str) (st : Stmt) (ps : List Str) : Prop where
  ex : ∃ (f : Addr) (fd : FuncData), Fun K x x st f fd ∧ Binds K fd ps [] ∧ mg x = some (.ref f) ∧ PySem.W.keepIn K (.ref f) = true
/-- a class of the text with its own __init__ -/
structure Dc (K : PySem.W.Frag) (mg : Str → Option Value) (x qi : Str) (st : Stmt) (C : Addr) (ps : List Str) : Prop where
  ex : ∃ (f : Addr) (fd : FuncData), Fun K "__init__" qi st f fd ∧ Binds K fd ps [] ∧ mg x = some (.ref C) ∧ Mk K C f
/-- .. its own == -/
structure De (K : PySem.W.Frag) (qe : Str) (st : Stmt) (C : Addr) (ps : List Str) : Prop where
  ex : ∃ (f : Addr) (fd : FuncData), Fun K "__eq__" qe st f fd ∧ Binds K fd ps [] ∧ PySem.W.findIn K (.ref C) "__eq__" = some (some (.ref f)) ∧ PySem.W.isFn K (.ref f) = true
section
variable {P : Program} {w : World} {K : PySem.W.Frag} {mg : Str → Option Value} {base : Heap} {x qual : Str} {st : Stmt} {ps N : List Str} {k : Nat} {ct : Ct} {fb : RS} {C : Addr}
abbrev Body (P : Program) (w : World) (K : PySem.W.Frag) (mg : Str → Option Value) (base : Heap) (qual : Str) (st : Stmt) (N : List Str) (k : Nat) (fb : RS) : Prop :=
  ∀ (f : Addr) (cdv : Value) (A : Around) (outer : List Env) (s : Shared) (H : Hp) (E : XK), Good (cxOf (L2.CX P w) P w K mg base N qual (defScope st) f cdv A outer s H E) (fun c d _ H' => E c d H') k → PSDs (cxOf (L2.CX P w) P w K mg base N qual (defScope st) f cdv A outer s H E) (fun c d _ H' => E c d H') (defBody st) fb
def Covs (N ps : List Str) (ct : Ct) (fb : RS) : Prop := ∀ ds μ, ds.length = ps.length → Cov μ (ct ds μ) (fb (ds.map some ++ List.replicate (N.length - ps.length) none) μ)
theorem Df.cal (d : Df K mg x st ps) (S : FnScope N ps (defScope st)) (b : Body P w K mg base x st N k fb) (c : Covs N ps ct fb) (hnp : ps.length ≤ N.length := by decide) : Cal P w K mg base (k + 1) x ps.length ct := by
  obtain ⟨f, fd, F, hb, hm, kp⟩ := d.ex
  exact ⟨f, fd, ps, rfl, fn_cal F S hnp (b f) c, hm, kp, hb⟩
theorem Dc.cml {qi : Str} {n : Nat} (d : Dc K mg x qi st C ps) (S : FnScope N ps (defScope st)) (b : Body P w K mg base qi st N k fb) (c : Covs N ps ct fb) (hn : ps.length = n + 1 := by rfl) (hnp : ps.length ≤ N.length := by decide) : Cml P w K mg base (k + 1) x C n ct := by
  obtain ⟨f, fd, F, hb, hm, M⟩ := d.ex
  exact ⟨f, fd, ps, hn, M, by rw [← hn]; exact fn_cal F S hnp (b f) c, hm, hb⟩
theorem De.ceq {qe : Str} (d : De K qe st C ps) (S : FnScope N ps (defScope st)) (b : Body P w K mg base qe st N k fb) (c : Covs N ps ct fb) (hn : ps.length = 2 := by rfl) (hnp : ps.length ≤ N.length := by decide) : Ceq P w K mg base (k + 1) C ct := by
  obtain ⟨f, fd, F, hb, h1, h2⟩ := d.ex
  exact ⟨f, fd, ps, hn, by rw [← hn]; exact fn_cal F S hnp (b f) c, h1, h2, hb⟩
/-- the contract that is the body itself -/
def ctOf (m : Nat) (fb : RS) : Ct := fun ds μ => match fb (ds.map some ++ List.replicate m none) μ with
  | .rt d μ1 => .ok d μ1
  | .nx _ μ1 => .ok .non μ1
  | .exc x _ μ1 => .exc x μ1
  | _ => .bad
theorem covs_of : Covs N ps (ctOf (N.length - ps.length) fb) fb := fun ds μ hl => by
  unfold ctOf
  cases h : fb (ds.map some ++ List.replicate (N.length - ps.length) none) μ with
  | rt d μ1 => exact ⟨rfl, .inl rfl⟩
  | nx δ μ1 => exact ⟨rfl, .inl rfl⟩
  | exc x δ μ1 => exact ⟨rfl, .inl rfl⟩
  | _ => trivial
end

/-! ### a comprehension's block, by computation -/
def blkOkB (N : List Str) (sc scope : Scope) (own : List (Str × Nat)) : Bool :=
  decide (scope.kind = .function) && (scope.names.all (fun y => decide (scope.names.lookup y.1 = some y.2)) && (own.all (fun p => decide (N[p.2]? = some p.1)) &&
    (scope.names.all (fun y => !decide (y.2 = .free) || (decide (sc.names.lookup y.1 = some .cell) || decide (sc.names.lookup y.1 = some .free))) &&
      scope.names.all (fun y => !(decide (y.2 = .local) || decide (y.2 = .cell)) || (decide (y.1 ∈ own.map (·.1)) || decide (y.1 ∉ N))))))
theorem blkOk_of {N : List Str} {sc scope : Scope} {own : List (Str × Nat)} (h : blkOkB N sc scope own = true) : BlkOk N sc scope own := by
  unfold blkOkB at h
  simp only [Bool.and_eq_true, List.all_eq_true, decide_eq_true_eq, Bool.or_eq_true, Bool.not_eq_true', decide_eq_false_iff_not] at h
  obtain ⟨h1, h2, h3, h4, h5⟩ := h
  refine ⟨h1, h2, h3, fun y hy hf => ?_, fun y hy hf => ?_⟩
  · rcases h4 y hy with q | q
    · exact absurd hf q
    · exact q
  · rcases h5 y hy with q | q
    · simp only [Bool.or_eq_false_iff, decide_eq_false_iff_not] at q
      rcases hf with hf | hf
      · exact absurd hf q.1
      · exact absurd hf q.2
    · exact q

section
variable {X : Cx} {W : WX} {a b c e : Expr} {es : List Expr} {fa fb fc f : RE} {ft fu : RT} {fs : RA} {pos p : Pos} {k : Nat}
/-! ### short forms -/
theorem pd_eq (g : Good X W k) (ha : PD X W a fa) (hb : PD X W b fb) (hm : behindInMarks .Eq b = false := by rfl) : PD X W (.Compare a [.Eq] [b] pos) (rBin eqD fa fb) := pd_cmp (op_eqD (by have := g.hu; omega)) op2_eq hm ha hb
theorem pd_ne (g : Good X W k) (ha : PD X W a fa) (hb : PD X W b fb) (hm : behindInMarks .NotEq b = false := by rfl) : PD X W (.Compare a [.NotEq] [b] pos) (rBin neD fa fb) := pd_cmp (op_neD (by have := g.hu; omega)) op2_ne hm ha hb
theorem pdt_eq (g : Good X W k) (ha : PD X W a fa) (hb : PD X W b fb) (hm : behindInMarks .Eq b = false := by rfl) : PDT X W (.Compare a [.Eq] [b] pos) (rT (rBin eqD fa fb)) := pdt_cmp (op_eqD (by have := g.hu; omega)) op2_eq hm ha hb
theorem pdt_ne (g : Good X W k) (ha : PD X W a fa) (hb : PD X W b fb) (hm : behindInMarks .NotEq b = false := by rfl) : PDT X W (.Compare a [.NotEq] [b] pos) (rT (rBin neD fa fb)) := pdt_cmp (op_neD (by have := g.hu; omega)) op2_ne hm ha hb
theorem pdt_lt (ha : PD X W a fa) (hb : PD X W b fb) (hm : behindInMarks .Lt b = false := by rfl) : PDT X W (.Compare a [.Lt] [b] pos) (rT (rBin ltD fa fb)) := pdt_cmp op_lt op2_intB hm ha hb
theorem pdt_le (ha : PD X W a fa) (hb : PD X W b fb) (hm : behindInMarks .LtE b = false := by rfl) : PDT X W (.Compare a [.LtE] [b] pos) (rT (rBin leD fa fb)) := pdt_cmp op_le op2_intB hm ha hb
theorem pdt_gt (ha : PD X W a fa) (hb : PD X W b fb) (hm : behindInMarks .Gt b = false := by rfl) : PDT X W (.Compare a [.Gt] [b] pos) (rT (rBin gtD fa fb)) := pdt_cmp op_gt op2_intB hm ha hb
theorem pdt_ge (ha : PD X W a fa) (hb : PD X W b fb) (hm : behindInMarks .GtE b = false := by rfl) : PDT X W (.Compare a [.GtE] [b] pos) (rT (rBin geD fa fb)) := pdt_cmp op_ge op2_intB hm ha hb
theorem pd_lt (ha : PD X W a fa) (hb : PD X W b fb) (hm : behindInMarks .Lt b = false := by rfl) : PD X W (.Compare a [.Lt] [b] pos) (rBin ltD fa fb) := pd_cmp op_lt op2_intB hm ha hb
theorem pd_le (ha : PD X W a fa) (hb : PD X W b fb) (hm : behindInMarks .LtE b = false := by rfl) : PD X W (.Compare a [.LtE] [b] pos) (rBin leD fa fb) := pd_cmp op_le op2_intB hm ha hb
theorem pd_gt (ha : PD X W a fa) (hb : PD X W b fb) (hm : behindInMarks .Gt b = false := by rfl) : PD X W (.Compare a [.Gt] [b] pos) (rBin gtD fa fb) := pd_cmp op_gt op2_intB hm ha hb
theorem pd_ge (ha : PD X W a fa) (hb : PD X W b fb) (hm : behindInMarks .GtE b = false := by rfl) : PD X W (.Compare a [.GtE] [b] pos) (rBin geD fa fb) := pd_cmp op_ge op2_intB hm ha hb
theorem pdt_is (ha : PD X W a fa) (hb : PD X W b fb) (hm : behindInMarks .Is b = false := by rfl) : PDT X W (.Compare a [.Is] [b] pos) (rT (rBin isN fa fb)) := pdt_cmp op_isN op2_isN hm ha hb
theorem pd_le2 (ha : PD X W a fa) (hb : PD X W b fb) (hc : PD X W c fc) (hm : lastMarks [.LtE, .LtE] [b, c] = false := by with_unfolding_all rfl) : PD X W (.Compare a [.LtE, .LtE] [b, c] pos) (rChain leD leD fa fb fc) := pd_chain op_le op_le op2_intB op2_intB intB_noexc ha hb hc hm
theorem pdt_le2 (ha : PD X W a fa) (hb : PD X W b fb) (hc : PD X W c fc) (hm : lastMarks [.LtE, .LtE] [b, c] = false := by with_unfolding_all rfl) : PDT X W (.Compare a [.LtE, .LtE] [b, c] pos) (rT (rChain leD leD fa fb fc)) := pdt_chain op_le op_le op2_intB op2_intB intB_noexc ha hb hc hm
theorem pd_add (ha : PD X W a fa) (hb : PD X W b fb) : PD X W (.BinOp a .Add b pos) (rBin addD fa fb) := pd_bin op_addA op2_add ha hb
theorem pd_sub (ha : PD X W a fa) (hb : PD X W b fb) : PD X W (.BinOp a .Sub b pos) (rBin subD fa fb) := pd_bin op_sub op2_intI0 ha hb
theorem pd_mul (ha : PD X W a fa) (hb : PD X W b fb) : PD X W (.BinOp a .Mult b pos) (rBin mulD fa fb) := pd_bin op_mul op2_mul ha hb
theorem pd_fdiv (ha : PD X W a fa) (hb : PD X W b fb) : PD X W (.BinOp a .FloorDiv b pos) (rBin divD fa fb) := pd_bin op_fdiv op2_div ha hb
theorem pd_mod (ha : PD X W a fa) (hb : PD X W b fb) : PD X W (.BinOp a .Mod b pos) (rBin modD fa fb) := pd_bin op_mod op2_mod ha hb
theorem pd_pow (ha : PD X W a fa) (hb : PD X W b fb) : PD X W (.BinOp a .Pow b pos) (rBin powD fa fb) := pd_bin op_pow op2_pow ha hb
theorem pd_len (hm : X.mg "len" = none) (ha : PDA X W [e] fs) (hg : Gl X "len" := by rfl) (he : starEach [e] X.env = (false, eval e X.env) :: starEach [] X.env := by rfl) : PD X W (.Call (.Name "len" p) [e] [] pos) (rCB lenD fs) :=
  pd_callB call_lenA opn_len PySem.boot_len hm ha hg (by decide) (by decide) he rfl
theorem pd_isT (T : String) (hm : X.mg "isinstance" = none) (ha : PDA X W [a, b] fs) (hg : Gl X "isinstance" := by rfl) (he : starEach [a, b] X.env = (false, eval a X.env) :: starEach [b] X.env := by rfl) (hpl : (backTo pos (starEach [b] X.env)).any (·.1) = false := by rfl) :
    PD X W (.Call (.Name "isinstance" p) [a, b] [] pos) (rCB (isiD (.ty T) (isT T)) fs) :=
  pd_callB call_isi (opn_isi isiQ_ty) PyProof.Rows.boot_isinstance hm ha hg (by decide) (by decide) he hpl
theorem pd_intC (hm : X.mg "int" = none) (ha : PDA X W [e] fs) (hg : Gl X "int" := by rfl) (he : starEach [e] X.env = (false, eval e X.env) :: starEach [] X.env := by rfl) : PD X W (.Call (.Name "int" p) [e] [] pos) (rCB intD fs) :=
  pd_callT call_intA opn_int PyProof.Rows.boot_int hm ha hg (by decide) (by decide) he rfl
theorem pd_strC (hm : X.mg "str" = none) (ha : PDA X W [e] fs) (hg : Gl X "str" := by rfl) (he : starEach [e] X.env = (false, eval e X.env) :: starEach [] X.env := by rfl) : PD X W (.Call (.Name "str" p) [e] [] pos) (rCB strD fs) :=
  pd_callT call_strA opn_str PyProof.Rows.boot_str hm ha hg (by decide) (by decide) he rfl
theorem pd_listC (m : Bool) (g : Good X W k) (hm : X.mg "list" = none) (ha : PDA X W [e] fs) (hg : Gl X "list" := by rfl) (he : starEach [e] X.env = (false, eval e X.env) :: starEach [] X.env := by rfl) : PD X W (.Call (.Name "list" p) [e] [] pos) (rCB (listD m) fs) :=
  pd_callT (call_listA g.calm) (opn_list m) PyProof.Rows.boot_list hm ha hg (by decide) (by decide) he rfl
theorem pd_tupC (hm : X.mg "tuple" = none) (ha : PDA X W [e] fs) (hg : Gl X "tuple" := by rfl) (he : starEach [e] X.env = (false, eval e X.env) :: starEach [] X.env := by rfl) : PD X W (.Call (.Name "tuple" p) [e] [] pos) (rCB tupD fs) :=
  pd_callT call_tuple_of opn_tup PyProof.Rows.boot_tuple hm ha hg (by decide) (by decide) he rfl
theorem pd_max2 (g : Good X W k) (hm : X.mg "max" = none) (ha : PDA X W [a, b] fs) (hg : Gl X "max" := by rfl) (he : starEach [a, b] X.env = (false, eval a X.env) :: starEach [b] X.env := by rfl) (hpl : (backTo pos (starEach [b] X.env)).any (·.1) = false := by rfl) : PD X W (.Call (.Name "max" p) [a, b] [] pos) (rCB max2D fs) :=
  pd_callB (call_max2 g.calm) opn_max2 PyProof.Rows.boot_max hm ha hg (by decide) (by decide) he hpl
theorem pd_all (g : Good X W k) (hm : X.mg "all" = none) (ha : PDA X W [e] fs) (hg : Gl X "all" := by rfl) (he : starEach [e] X.env = (false, eval e X.env) :: starEach [] X.env := by rfl) : PD X W (.Call (.Name "all" p) [e] [] pos) (rCB (allD false) fs) :=
  pd_callB (cr_all g.calm) opn_all PyProof.Rows.boot_all hm ha hg (by decide) (by decide) he rfl
theorem pd_any (g : Good X W k) (hm : X.mg "any" = none) (ha : PDA X W [e] fs) (hg : Gl X "any" := by rfl) (he : starEach [e] X.env = (false, eval e X.env) :: starEach [] X.env := by rfl) : PD X W (.Call (.Name "any" p) [e] [] pos) (rCB (allD true) fs) :=
  pd_callB (cr_any g.calm) opn_any PyProof.Rows.boot_any hm ha hg (by decide) (by decide) he rfl
theorem pd_lenP {ad : Addr} {kvs : List (Key × V)} (D : KDat X.K X.w ad kvs) (hm : X.mg "len" = none) (ha : PDA X W [e] fs) (hg : Gl X "len" := by rfl) (he : starEach [e] X.env = (false, eval e X.env) :: starEach [] X.env := by rfl) : PD X W (.Call (.Name "len" p) [e] [] pos) (rCB (onP ad fun μ => .ok (.int (kvs.length : Nat)) μ) fs) :=
  pd_callB (call_lenP D) opn_lenP PySem.boot_len hm ha hg (by decide) (by decide) he rfl
theorem pd_listP {ad : Addr} {kvs : List (Key × V)} (D : KDat X.K X.w ad kvs) (g : Good X W k) (hm : X.mg "list" = none) (ha : PDA X W [e] fs) (hg : Gl X "list" := by rfl) (he : starEach [e] X.env = (false, eval e X.env) :: starEach [] X.env := by rfl) : PD X W (.Call (.Name "list" p) [e] [] pos) (rCB (onP ad fun μ => .ok (.lst ((kvs.map (·.1)).map Key.d)) μ) fs) :=
  pd_callT (call_listP g.calm D) opn_listP PyProof.Rows.boot_list hm ha hg (by decide) (by decide) he rfl
/-- a, b, c = three values -/
def rPar3 (i j l : Nat) (fs : RA) : RS := fun δ μ => (fs δ μ).st δ fun ds μ1 => match ds with
  | [d, e, h] => .nx (((δ.set i (some d)).set j (some e)).set l (some h)) μ1
  | _ => .bad
theorem psd_par3 (i j l : Nat) {x y z : Str} {px py pz pt pt2 : Pos} {kt k2 : Nat} (hc : X.calm = true) (hN : X.N.Nodup) (ha : PDA X W [a, b, c] fs) (hij : i ≠ j := by decide) (hil : i ≠ l := by decide) (hjl : j ≠ l := by decide) (hi : X.N[i]? = some x := by rfl) (hj : X.N[j]? = some y := by rfl) (hl : X.N[l]? = some z := by rfl)
    (hx : X.env.scope.names.lookup x = some .local := by rfl) (hy : X.env.scope.names.lookup y = some .local := by rfl) (hz : X.env.scope.names.lookup z = some .local := by rfl)
    (hw : swappedStores [.Tuple [.Name x px, .Name y py, .Name z pz] kt pt] (.Tuple [a, b, c] k2 pt2) X.env = pure (some [x, y, z]) := by rfl)
    (hs : swapsWithSole [.Tuple [.Name x px, .Name y py, .Name z pz] kt pt] (.Tuple [a, b, c] k2 pt2) pos.line X.env = pure false := by rfl) :
    PSD X W (.Assign [.Tuple [.Name x px, .Name y py, .Name z pz] kt pt] (.Tuple [a, b, c] k2 pt2) pos) (rPar3 i j l fs) :=
  ps_weak (ps_par3 hc hN hi hj hl hij hil hjl hx hy hz ha hw hs) fun D σ H ⟨γ, α, F, μ, δ, w, s, q⟩ => tDA_st w s q fun ds μ1 α1 F1 H1 vs p1 e1 w1 s1 hv q1 => by
    match ds, hv, q1 with
    | [d, e, h], .cons h1 (.cons h2 (.cons h3 .nil)), q1 => exact ⟨_, _, _, rfl, q1.nx_ w1 (((s1.set i h1).set j h2).set l h3)⟩
    | [], _, q1 => exact q1.elim
    | [_], _, q1 => exact q1.elim
    | [_, _], _, q1 => exact q1.elim
    | _ :: _ :: _ :: _ :: _, _, q1 => exact q1.elim
end

/-! ### isinstance(x, C), C a class of the text -/
def isK (C : Addr) (d : D) : Option Bool := match d with
  | .ins C' _ _ => if C' = C then some true else none
  | _ => none
structure KisC (K : PySem.W.Frag) (C : Addr) : Prop where
  cl : Cls K C
  ha : PySem.W.findIn K (.ref C) "__class__" = some (some (.builtin "object.__class__"))
  hn : PySem.W.specialIn K (.builtin "object.__class__") "__get__" = some (some (.builtin "getset_descriptor.__get__"))
  ht : PySem.W.takesIn K (.builtin "object.__class__") = some true
  hm : PySem.W.mroIn K C (.type "object") = some true
theorem isiQ_K {K : PySem.W.Frag} {C : Addr} (c : KisC K C) : IsiQ K (.ref C) (isK C) := fun α F H v d b h e => by
  unfold isK at e
  cases d with
  | ins C' fs xs =>
    simp only at e
    split at e
    · rename_i hC
      subst hC
      cases e
      obtain ⟨a, dx, fv, rfl, h1, _⟩ := h
      refine ⟨_, _, .own C', .base (.ins h1 c.cl c.ha c.hn c.ht c.hm), ?_⟩
      unfold PySem.W.kitOne
      rw [if_pos (beq_self_eq_true _)]
    · cases e
  | _ => cases e
theorem pd_isK {X : Cx} {W : WX} {a b : Expr} {fs : RA} {pos p : Pos} {C : Addr} {q : D → Option Bool} (hm : X.mg "isinstance" = none) (hq : IsiQ X.K (.ref C) q) (ha : PDA X W [a, b] fs) (hg : Gl X "isinstance" := by rfl) (he : starEach [a, b] X.env = (false, eval a X.env) :: starEach [b] X.env := by rfl) (hpl : (backTo pos (starEach [b] X.env)).any (·.1) = false := by rfl) :
    PD X W (.Call (.Name "isinstance" p) [a, b] [] pos) (rCB (isiD (.ref C) q) fs) :=
  pd_callB call_isi (opn_isi hq) PyProof.Rows.boot_isinstance hm ha hg (by decide) (by decide) he hpl
end DL

/-! The data layer, n: the law's own promise. -/
namespace DL
open PySem L2
def spLaw (K : PySem.W.Frag) : Sp := fun vs H Q _ => ∃ (a : Addr) (ns : List Int), vs = [.ref a] ∧ SqL K H a (ns.map V.int) ∧ ns.length ≤ 63 ∧ ∀ H', Q (.bl true) H'
theorem wd_all {K : PySem.W.Frag} {H : Hp} : Wd K (fun _ => none) [] H H [] :=
  ⟨rfl, fun i j a h => by simp at h, Same.refl H, fun k a h => by simp at h, fun k a o h => by simp at h, fun k a o h => by simp at h, fun b o h => (nomatch h), fun a h => absurd rfl h, fun k a h => by simp at h⟩
theorem spd_of {K : PySem.W.Frag} {P : Program} {w : World} {mg : Str → Option Value} {base : Heap} {k : Nat} {f : Addr} {fd : FuncData} {ct : Ct} {ps : List Str} (F : FnOk P w K mg base (L2.CX P w) k f fd ps (spD K 1 ct))
    (m : ∀ ns : List Int, ns.length ≤ 63 → ∃ μ, ct [.frl (ns.map D.int)] [] = .ok (.bl true) μ) : FnOk P w K mg base (L2.CX P w) k f fd ps (spLaw K) :=
  F.imp fun vs H Q E ⟨a, ns, e, hS, hl, q⟩ => by
    subst e
    obtain ⟨μ, hm⟩ := m ns hl
    refine ⟨rfl, fun _ => none, [], H, [], _, wd_all, .cons (.frl hS (.ints ns)) .nil, ?_⟩
    rw [hm]
    intro α' F' H' p e w v hv
    cases hv
    exact q H'
end DL

/-! The data layer, o: == of data with dicts in it, where the answer is True. -/
namespace DL
open PySem L2
def alike (q : D → D → Bool) : List D → List D → Bool
  | [], [] => true
  | x :: xs, y :: ys => q x y && alike q xs ys
  | _, _ => false
def alikeK (q : D → D → Bool) (ls : List Key) (ys : List D) : List Key → List D → Bool
  | [], [] => true
  | k :: ks, x :: xs => (match lookD ls ys k with
    | some y => q x y
    | none => false) && alikeK q ls ys ks xs
  | _, _ => false
/-- equal, of nesting below n -/
def eqN : Nat → D → D → Bool
  | _, .non, .non => true
  | _, .bl a, .bl b => a == b
  | _, .int a, .int b => decide (a = b)
  | _, .str a, .str b => decide (a = b)
  | n + 1, .tup xs, .tup ys => alike (eqN n) xs ys
  | n + 1, .lst xs, .lst ys => alike (eqN n) xs ys
  | n + 1, .dct ks xs, .dct ls ys => decide (ks.length = ls.length) && alikeK (eqN n) ls ys ks xs
  | _, _, _ => false
section
variable {X : Cx} {pins : List (Addr × Obj)} {σ : St} {H : Hp} {s : Shared} {γ : Hp} {α : List Addr} {F : Hp} {μ : List Ob}
def Rn (K : PySem.W.Frag) (α : List Addr) (F : Hp) (n : Nat) (x y : V) : Prop := ∃ d e, Is K α F x d ∧ Is K α F y e ∧ eqN n d e = true
theorem pair_of {K : PySem.W.Frag} {n : Nat} : ∀ {vs us : List V} {xs ys : List D}, IsL K α F vs xs → IsL K α F us ys → alike (eqN n) xs ys = true → Paired (Rn K α F n) vs us
  | _, _, [], [], .nil, .nil, _ => .nil
  | _, _, x :: xs, y :: ys, .cons h t, .cons h' t', e => by
    rw [alike, Bool.and_eq_true] at e
    exact .cons ⟨x, y, h, h', e.1⟩ (pair_of t t' e.2)
  | _, _, [], _ :: _, _, _, e => by simp [alike] at e
  | _, _, _ :: _, [], _, _, e => by simp [alike] at e
theorem pairK_of {K : PySem.W.Frag} {n : Nat} {ls : List (Key × V)} {ys : List D} (l' : IsL K α F (ls.map (·.2)) ys) : ∀ {ks : List (Key × V)} {xs : List D}, IsL K α F (ks.map (·.2)) xs → alikeK (eqN n) (ls.map (·.1)) ys (ks.map (·.1)) xs = true →
    ∀ p ∈ ks, ∃ u, valV ls p.1 = some u ∧ Rn K α F n p.2 u
  | [], _, _, _ => fun p h => by cases h
  | (k, v) :: r, x :: xs, .cons h t, e => by
    rw [List.map_cons, alikeK, Bool.and_eq_true] at e
    intro p hp
    rcases List.mem_cons.mp hp with rfl | hp
    · cases hk : lookD (ls.map (·.1)) ys k with
      | none => rw [hk] at e; exact absurd e.1 Bool.false_ne_true
      | some y =>
        rw [hk] at e
        obtain ⟨u, h1, h2⟩ := look_val' l' hk
        exact ⟨u, h1, x, y, h, h2, e.1⟩
    · exact pairK_of l' t e.2 p hp
theorem eqN_cases {n : Nat} {d e : D} (q : eqN n d e = true) : (d = e ∧ (d = .non ∨ (∃ a, d = .bl a) ∨ (∃ a, d = .int a) ∨ ∃ a, d = .str a)) ∨ (∃ m xs ys, n = m + 1 ∧ d = .tup xs ∧ e = .tup ys ∧ alike (eqN m) xs ys = true) ∨
    (∃ m xs ys, n = m + 1 ∧ d = .lst xs ∧ e = .lst ys ∧ alike (eqN m) xs ys = true) ∨ ∃ m ks xs ls ys, n = m + 1 ∧ d = .dct ks xs ∧ e = .dct ls ys ∧ ks.length = ls.length ∧ alikeK (eqN m) ls ys ks xs = true := by
  cases n <;> cases d <;> cases e <;> simp_all [eqN]
  all_goals exact ⟨_, _, ⟨rfl, rfl⟩, _, _, ⟨rfl, rfl⟩, q⟩
theorem eqN_run (w : Wd X.K γ α F H μ) (I : Inv X pins σ H s) : ∀ (n : Nat) (A : Around), A.units + n < cLine → ∀ (x y : V) (v u : Value), Rn X.K α F n x y → RelV x v → RelV y u → SeqAt.EqP X.prog X.w A s v u true := by
    intro n
    induction n using Nat.strongRecOn with
    | _ n ih =>
    intro A hu x y v u ⟨d, e, hd, he, q⟩ rx ry
    have flat : ∀ (q : x = y) (f : flatB x = true), SeqAt.EqP X.prog X.w A s v u true := fun q f => by subst q; exact (eqAt_same rx ry f).eqP
    have refs : ∀ {a b : Addr}, x = .ref a → y = .ref b → (∀ (E Q : Value → Shared → Prop), Q (.bool true) s → wpAny (model X.prog X.w) A (richCompare .Eq (.ref a) (.ref b)) Q E s) → SeqAt.EqP X.prog X.w A s v u true := fun {a b} e1 e2 step => by
      subst e1 e2
      cases (show v = Value.ref a from rx)
      cases (show u = Value.ref b from ry)
      by_cases e : a = b
      · subst e
        exact (SeqAt.EqAt.same _).eqP
      · exact SeqAt.eqP_refs e step
    rcases eqN_cases q with ⟨rfl, h⟩ | ⟨n, xs, ys, rfl, rfl, rfl, q2⟩ | ⟨n, xs, ys, rfl, rfl, rfl, q2⟩ | ⟨n, ks, xs, ls, ys, rfl, rfl, rfl, q2⟩
    · rcases h with rfl | ⟨a, rfl⟩ | ⟨a, rfl⟩ | ⟨a, rfl⟩ <;> (cases hd; cases he; exact flat rfl rfl)
    ·
      cases hd with
      | tup h1 l1 =>
        cases he with
        | tup h2 l2 =>
          rename_i a vs b us
          refine refs rfl rfl fun E Q hQ => ?_
          have hp := pair_of l1 l2 q2
          obtain ⟨its, r, e, z⟩ := I.tuple (sqt_mono w.sub h1)
          obtain ⟨its2, r2, e2, z2⟩ := I.tuple (sqt_mono w.sub h2)
          have hsz : its.toArray.size = its2.toArray.size := by rw [List.size_toArray, List.size_toArray, ← r.length, ← r2.length]; exact Paired.length hp
          refine GQ.rc_tupG hsz (by omega) (fun _ s' => s' = s) e e2 (fun i h1 h2 s' q => ?_) (fun s' q => by rw [q]; exact hQ) rfl
          subst q
          have k := items_run (fun x y v u => ih n (Nat.lt_succ_self n) A.in1 (by show A.units + 1 + n < cLine; omega) x y v u) hp r r2 i (by simpa using h1) (by simpa using h2)
          have k2 := k E (fun r s2 => r = true ∧ s2 = s') ⟨rfl, rfl⟩
          simpa using k2
    ·
      cases hd with
      | lst h1 l1 =>
        cases he with
        | lst h2 l2 =>
          rename_i a vs b us
          refine refs rfl rfl fun E Q hQ => ?_
          have hp := pair_of l1 l2 q2
          obtain ⟨us, r1, p1, _⟩ := I.list (.inl (.inl (w.sub _ _ h1)))
          obtain ⟨ws, r2, p2, _⟩ := I.list (.inl (.inl (w.sub _ _ h2)))
          have hsz : us.toArray.size = ws.toArray.size := by
            rw [List.size_toArray, List.size_toArray, ← r1.length, ← r2.length]
            exact Paired.length hp
          refine SeqAt.rcP_lists (e := fun _ => true) p1.isList p2.isList hsz (by omega) (fun j h1 h2 => ?_) E Q ?_
          · have k := items_run (fun x y v u => ih n (Nat.lt_succ_self n) A.in1 (by show A.units + 1 + n < cLine; omega) x y v u) hp r1 r2 j (by simpa using h1) (by simpa using h2)
            simpa using k
          · rw [show ((List.range us.toArray.size).all fun _ => true) = true from List.all_eq_true.mpr fun _ _ => rfl]
            exact hQ
    ·
      cases hd with
      | dct h1 g1 l1 =>
        cases he with
        | dct h2 g2 l2 =>
          rename_i a kvs b lvs
          subst g1 g2
          refine refs rfl rfl fun E Q hQ => ?_
          obtain ⟨_, ya, va, ra, da⟩ := rdd_of I (fzd_mono w.sub h1).rd
          obtain ⟨_, yb, vb, rb, db⟩ := rdd_of I (fzd_mono w.sub h2).rd
          have hp := pairK_of l2 l1 q2.2
          refine PySem.W.rcP_dicts (knd := mixKind X.prog X.w) (r := true) ya yb da db (by omega) (fun _ => hits_run (fun x y v u => ih n (Nat.lt_succ_self n) A.in1 (by show A.units + 1 + n < cLine; omega) x y v u) rb ra hp) E Q ?_
          have e : va.length = vb.length := by
            rw [← ra.length, ← rb.length]
            have := q2.1
            rw [List.length_map, List.length_map] at this
            exact this
          rw [show (va.length == vb.length && true) = true from by rw [e]; simp]
          exact hQ
/-- a == b, equal data -/
def rEqN (K : PySem.W.Frag) : R2 := fun x y H Q => ∃ γ α F μ a b, Wd K γ α F H μ ∧ x = .ref a ∧ y = .ref b ∧ Rn K α F 60 x y ∧ Q (.bl true) H
theorem op_eqN (hu : X.A.units + 64 < cLine) : OpR X (compareOp .Eq) (rEqN X.K) := by
  intro pins s σ H x y v u Q I rx ry h
  obtain ⟨γ, α, F, μ, a, b, w, rfl, rfl, h, q⟩ := h
  cases (show v = Value.ref a from rx)
  cases (show u = Value.ref b from ry)
  show wpAny (model X.prog X.w) X.A (richCompare .Eq (.ref a) (.ref b)) (EP X pins σ Q) X.xe s
  obtain ⟨d, e, hd, he, q'⟩ := h
  have hQ : EP X pins σ Q (.bool true) s := ⟨.bl true, H, I, rfl, q⟩
  have run := fun x y v u => eqN_run w I 59 X.A.in1 (by show X.A.units + 1 + 59 < cLine; omega) x y v u
  cases hd with
  | tup h1 l1 =>
    cases he with
    | tup h2 l2 =>
      rw [eqN] at q'
      have hp := pair_of l1 l2 q'
      obtain ⟨its, r, e, z⟩ := I.tuple (sqt_mono w.sub h1)
      obtain ⟨its2, r2, e2, z2⟩ := I.tuple (sqt_mono w.sub h2)
      have hsz : its.toArray.size = its2.toArray.size := by rw [List.size_toArray, List.size_toArray, ← r.length, ← r2.length]; exact Paired.length hp
      refine GQ.rc_tupG hsz (by omega) (fun _ s' => s' = s) e e2 (fun i h1 h2 s' q => ?_) (fun s' q => by rw [q]; exact hQ) rfl
      subst q
      have k2 := items_run run hp r r2 i (by simpa using h1) (by simpa using h2) X.xe (fun r s2 => r = true ∧ s2 = s') ⟨rfl, rfl⟩
      simpa using k2
    | _ => cases q'
  | lst h1 l1 =>
    cases he with
    | lst h2 l2 =>
      rw [eqN] at q'
      have hp := pair_of l1 l2 q'
      obtain ⟨us, r1, p1, _⟩ := I.list (.inl (.inl (w.sub _ _ h1)))
      obtain ⟨ws, r2, p2, _⟩ := I.list (.inl (.inl (w.sub _ _ h2)))
      have hsz : us.toArray.size = ws.toArray.size := by
        rw [List.size_toArray, List.size_toArray, ← r1.length, ← r2.length]
        exact Paired.length hp
      refine SeqAt.rcP_lists (e := fun _ => true) p1.isList p2.isList hsz (by omega) (fun j h1 h2 => ?_) _ _ ?_
      · have k := items_run run hp r1 r2 j (by simpa using h1) (by simpa using h2)
        simpa using k
      · rw [show ((List.range us.toArray.size).all fun _ => true) = true from List.all_eq_true.mpr fun _ _ => rfl]
        exact hQ
    | _ => cases q'
  | dct h1 g1 l1 =>
    cases he with
    | dct h2 g2 l2 =>
      rw [eqN, Bool.and_eq_true, decide_eq_true_iff] at q'
      subst g1 g2
      obtain ⟨_, ya, va, ra, da⟩ := rdd_of I (fzd_mono w.sub h1).rd
      obtain ⟨_, yb, vb, rb, db⟩ := rdd_of I (fzd_mono w.sub h2).rd
      have hp := pairK_of l2 l1 q'.2
      refine PySem.W.rcP_dicts (knd := mixKind X.prog X.w) (r := true) ya yb da db (by omega) (fun _ => hits_run run rb ra hp) _ _ ?_
      have e : va.length = vb.length := by
        rw [← ra.length, ← rb.length]
        have := q'.1
        rw [List.length_map, List.length_map] at this
        exact this
      rw [show (va.length == vb.length && true) = true from by rw [e]; simp]
      exact hQ
    | _ => cases q'
  | _ => cases e <;> cases q'
end
def eqTD (d e : D) (μ : List Ob) : R D := match d, e with
  | .tup xs, .tup ys => if eqN 60 (.tup xs) (.tup ys) then .ok (.bl true) μ else .bad
  | _, _ => .bad
theorem op2_eqT {K : PySem.W.Frag} : Op2 K (rEqN K) eqTD := fun γ α F H μ x y d e Q E w hx hy q => by
  unfold eqTD at q
  split at q
  · split at q
    · rename_i h
      have w0 := w
      cases hx with
      | tup h1 l1 =>
        cases hy with
        | tup h2 l2 => exact ⟨γ, α, F, μ, _, _, w0, rfl, rfl, ⟨_, _, .tup h1 l1, .tup h2 l2, h⟩, fin_ok w0 (.bl true) q⟩
    · exact q.elim
  · exact q.elim
section
variable {X : Cx} {W : WX} {a b : Expr} {fa fb : RE} {pos : Pos} {k : Nat}
theorem pd_eqT (g : Good X W k) (ha : PD X W a fa) (hb : PD X W b fb) (hm : behindInMarks .Eq b = false := by rfl) : PD X W (.Compare a [.Eq] [b] pos) (rBin eqTD fa fb) := pd_cmp (op_eqN (by have := g.hu; omega)) op2_eqT hm ha hb
theorem pdt_eqT (g : Good X W k) (ha : PD X W a fa) (hb : PD X W b fb) (hm : behindInMarks .Eq b = false := by rfl) : PDT X W (.Compare a [.Eq] [b] pos) (rT (rBin eqTD fa fb)) := pdt_cmp (op_eqN (by have := g.hu; omega)) op2_eqT hm ha hb
end
end DL

/-! The data layer, p: readings applied (simp). -/
namespace DL
open PySem L2
@[simp] theorem s_rVar (i : Nat) (δ : Sl) (μ : List Ob) : rVar i δ μ = (match δ[i]? with
    | some (some d) => .ok d μ
    | _ => .bad) := rfl
@[simp] theorem s_rC (d : D) (δ : Sl) (μ : List Ob) : rC d δ μ = (.ok d μ) := rfl
@[simp] theorem s_rBin (g : D → D → List Ob → R D) (fa fb : RE) (δ : Sl) (μ : List Ob) : rBin g fa fb δ μ = ((fa δ μ).bind fun d μ1 => (fb δ μ1).bind fun e μ2 => g d e μ2) := rfl
@[simp] theorem s_rT (f : RE) (δ : Sl) (μ : List Ob) : rT f δ μ = ((f δ μ).bind fun d μ1 => match d with
    | .bl b => .ok b μ1
    | _ => .bad) := rfl
@[simp] theorem s_rChain (g g' : D → D → List Ob → R D) (fa fb fc : RE) (δ : Sl) (μ : List Ob) : rChain g g' fa fb fc δ μ = ((fa δ μ).bind fun d μ1 => (fb δ μ1).bind fun e μ2 => (g d e μ2).bind fun z μ3 => match z with
    | .bl true => (fc δ μ3).bind fun k μ4 => g' e k μ4
    | .bl false => .ok (.bl false) μ3
    | _ => .bad) := rfl
@[simp] theorem s_rAndT (t u : RT) (δ : Sl) (μ : List Ob) : rAndT t u δ μ = ((t δ μ).bind fun k μ1 => match k with
    | true => u δ μ1
    | false => .ok false μ1) := rfl
@[simp] theorem s_rOrT (t u : RT) (δ : Sl) (μ : List Ob) : rOrT t u δ μ = ((t δ μ).bind fun k μ1 => match k with
    | true => .ok true μ1
    | false => u δ μ1) := rfl
@[simp] theorem s_rNotT (t : RT) (δ : Sl) (μ : List Ob) : rNotT t δ μ = ((t δ μ).bind fun k μ1 => .ok (!k) μ1) := rfl
@[simp] theorem s_rAndV (fa fb : RE) (δ : Sl) (μ : List Ob) : rAndV fa fb δ μ = ((fa δ μ).bind fun d μ1 => match d with
    | .bl true => fb δ μ1
    | .bl false => .ok (.bl false) μ1
    | _ => .bad) := rfl
@[simp] theorem s_rOrV (fa fb : RE) (δ : Sl) (μ : List Ob) : rOrV fa fb δ μ = ((fa δ μ).bind fun d μ1 => match d with
    | .bl true => .ok (.bl true) μ1
    | .bl false => fb δ μ1
    | _ => .bad) := rfl
@[simp] theorem s_rNotV (fa : RE) (δ : Sl) (μ : List Ob) : rNotV fa δ μ = ((fa δ μ).bind fun d μ1 => match d with
    | .bl k => .ok (.bl (!k)) μ1
    | _ => .bad) := rfl
@[simp] theorem s_rIf (t : RT) (fa fb : RE) (δ : Sl) (μ : List Ob) : rIf t fa fb δ μ = ((t δ μ).bind fun k μ1 => match k with
    | true => fa δ μ1
    | false => fb δ μ1) := rfl
@[simp] theorem s_rNil (δ : Sl) (μ : List Ob) : rNil  δ μ = (.ok [] μ) := rfl
@[simp] theorem s_rCons (fa : RE) (fs : RA) (δ : Sl) (μ : List Ob) : rCons fa fs δ μ = ((fa δ μ).bind fun d μ1 => (fs δ μ1).bind fun ds μ2 => .ok (d :: ds) μ2) := rfl
@[simp] theorem s_rTup (fs : RA) (δ : Sl) (μ : List Ob) : rTup fs δ μ = ((fs δ μ).bind fun ds μ1 => if ds.length ≤ 16777216 then .ok (.tup ds) μ1 else .bad) := rfl
@[simp] theorem s_rLst (fs : RA) (δ : Sl) (μ : List Ob) : rLst fs δ μ = ((fs δ μ).bind fun ds μ1 => if ds.length ≤ 16777216 then .ok (.lst ds) μ1 else .bad) := rfl
@[simp] theorem s_rLstM (fs : RA) (δ : Sl) (μ : List Ob) : rLstM fs δ μ = ((fs δ μ).bind fun ds μ1 => if ds.length ≤ 16777216 then .ok (.loc μ1.length) (μ1 ++ [.lst ds]) else .bad) := rfl
@[simp] theorem s_rNone (δ : Sl) (μ : List Ob) : rNone  δ μ = (.ok none μ) := rfl
@[simp] theorem s_rSome (f : RE) (δ : Sl) (μ : List Ob) : rSome f δ μ = ((f δ μ).bind fun d μ1 => match d with
    | .int i => .ok (some i) μ1
    | _ => .bad) := rfl
@[simp] theorem s_rSlice (fa : RE) (fl fh : RO) (δ : Sl) (μ : List Ob) : rSlice fa fl fh δ μ = ((fa δ μ).bind fun d μ1 => (fl δ μ1).bind fun lo μ2 => (fh δ μ2).bind fun hi μ3 => sliceD d lo hi μ3) := rfl
@[simp] theorem s_rSeq (g h : RS) (δ : Sl) (μ : List Ob) : rSeq g h δ μ = (match g δ μ with
    | .nx δ1 μ1 => h δ1 μ1
    | r => r) := rfl
@[simp] theorem s_rDrop (f : RE) (δ : Sl) (μ : List Ob) : rDrop f δ μ = ((f δ μ).st δ fun _ μ1 => .nx δ μ1) := rfl
@[simp] theorem s_rRet (f : RE) (δ : Sl) (μ : List Ob) : rRet f δ μ = ((f δ μ).st δ fun d μ1 => .rt d μ1) := rfl
@[simp] theorem s_rIfS (ft : RT) (g h : RS) (δ : Sl) (μ : List Ob) : rIfS ft g h δ μ = ((ft δ μ).st δ fun k μ1 => match k with
    | true => g δ μ1
    | false => h δ μ1) := rfl
@[simp] theorem s_rSet (i : Nat) (f : RE) (δ : Sl) (μ : List Ob) : rSet i f δ μ = ((f δ μ).st δ fun d μ1 => .nx (δ.set i (some d)) μ1) := rfl
@[simp] theorem s_rAsg (t : Tg) (f : RE) (δ : Sl) (μ : List Ob) : rAsg t f δ μ = ((f δ μ).st δ fun d μ1 => match t.set d δ with
    | some δ1 => .nx δ1 μ1
    | none => .bad) := rfl
@[simp] theorem s_rPar (i j : Nat) (fs : RA) (δ : Sl) (μ : List Ob) : rPar i j fs δ μ = ((fs δ μ).st δ fun ds μ1 => match ds with
    | [d, e] => .nx ((δ.set i (some d)).set j (some e)) μ1
    | _ => .bad) := rfl
@[simp] theorem s_rAug (i : Nat) (g : Int → Int → Int) (f : RE) (δ : Sl) (μ : List Ob) : rAug i g f δ μ = (match δ[i]? with
    | some (some (.int a)) => (f δ μ).st δ fun d μ1 => match d with
      | .int b => .nx (δ.set i (some (.int (g a b)))) μ1
      | _ => .bad
    | _ => .bad) := rfl
@[simp] theorem s_rItems (f : RE) (δ : Sl) (μ : List Ob) : rItems f δ μ = ((f δ μ).bind fun d μ1 => match itemsD d with
    | some xs => .ok xs μ1
    | none => .bad) := rfl
@[simp] theorem s_rRange1 (fs : RA) (δ : Sl) (μ : List Ob) : rRange1 fs δ μ = ((fs δ μ).bind fun ds μ1 => match ds with
    | [.int j] => if -(2 ^ 62) ≤ j ∧ j < 2 ^ 62 then .ok (upTo 0 j.toNat) μ1 else .bad
    | _ => .bad) := rfl
@[simp] theorem s_rRange2 (fs : RA) (δ : Sl) (μ : List Ob) : rRange2 fs δ μ = ((fs δ μ).bind fun ds μ1 => match ds with
    | [.int i, .int j] => if -(2 ^ 62) ≤ i ∧ i < 2 ^ 62 ∧ -(2 ^ 62) ≤ j ∧ j < 2 ^ 62 then .ok (upTo i (j - i).toNat) μ1 else .bad
    | _ => .bad) := rfl
@[simp] theorem s_rItemsM (f : RE) (δ : Sl) (μ : List Ob) : rItemsM f δ μ = ((f δ μ).bind fun d μ1 => match d with
    | .dct ks xs => .ok ((ks.zip xs).map fun q => D.tup [Key.d q.1, q.2]) μ1
    | _ => .bad) := rfl
@[simp] theorem s_rFor (fi : RA) (t : Tg) (body : RS) (δ : Sl) (μ : List Ob) : rFor fi t body δ μ = ((fi δ μ).st δ fun ds μ1 => forL t body ds δ μ1) := rfl
@[simp] theorem s_rYes (δ : Sl) (μ : List Ob) : rYes  δ μ = (.ok true μ) := rfl
@[simp] theorem s_rLc (fi : RA) (t : Tg) (vs : List Nat) (ft : RT) (fe : RE) (δ : Sl) (μ : List Ob) : rLc fi t vs ft fe δ μ = ((fi δ μ).bind fun ds μ1 => (compL t vs ft fe ds δ μ1 []).bind fun ys μ2 => .ok (.lst ys) μ2) := rfl
@[simp] theorem s_rCall (n : Nat) (ct : Ct) (fs : RA) (δ : Sl) (μ : List Ob) : rCall n ct fs δ μ = ((fs δ μ).bind fun ds μ1 => if ds.length = n then ct ds μ1 else .bad) := rfl
@[simp] theorem s_rCB (g : List D → List Ob → R D) (fs : RA) (δ : Sl) (μ : List Ob) : rCB g fs δ μ = ((fs δ μ).bind g) := rfl
@[simp] theorem s_gNm (i : Nat) (d : D) (δ : Sl) (μ : List Ob) : gNm i d δ μ = (.nx (δ.set i (some d)) μ) := rfl
@[simp] theorem s_gSt (fo fi : RE) (d : D) (δ : Sl) (μ : List Ob) : gSt fo fi d δ μ = ((fo δ μ).st δ fun o μ1 => (fi δ μ1).st δ fun i μ2 => (storeD o i d μ2).st δ fun _ μ3 => .nx δ μ3) := rfl
@[simp] theorem s_gNil (ds : List D) (δ : Sl) (μ : List Ob) : gNil  ds δ μ = (match ds with
    | [] => .nx δ μ
    | _ => .bad) := rfl
@[simp] theorem s_gCons (g : D → RS) (gs : List D → RS) (ds : List D) (δ : Sl) (μ : List Ob) : gCons g gs ds δ μ = (match ds with
    | d :: r => rSeq (g d) (gs r) δ μ
    | [] => .bad) := rfl
@[simp] theorem s_gTp (n : Nat) (gs : List D → RS) (d : D) (δ : Sl) (μ : List Ob) : gTp n gs d δ μ = (match d with
    | .tup ds => if ds.length = n then gs ds δ μ else .bad
    | _ => .bad) := rfl
@[simp] theorem s_rAsgD (g : D → RS) (f : RE) (δ : Sl) (μ : List Ob) : rAsgD g f δ μ = ((f δ μ).st δ fun d μ1 => match g d δ μ1 with
    | .nx δ1 μ2 => .nx δ1 μ2
    | .exc x δ1 μ2 => .exc x δ1 μ2
    | _ => .bad) := rfl
@[simp] theorem s_rMt (c : D → Bool) (m : D → List D → List Ob → R D) (fo : RE) (fs : RA) (δ : Sl) (μ : List Ob) : rMt c m fo fs δ μ = ((fo δ μ).bind fun d μ1 => if c (d.view μ1) then (fs δ μ1).bind fun ds μ2 => m d ds μ2 else .bad) := rfl
@[simp] theorem s_rDnew (δ : Sl) (μ : List Ob) : rDnew  δ μ = (.ok (.loc μ.length) (μ ++ [.dct [] []])) := rfl
@[simp] theorem s_rFrz (f : RE) (δ : Sl) (μ : List Ob) : rFrz f δ μ = ((f δ μ).bind fun d μ1 => match d with
    | .loc k => match μ1[k]? with
      | some (.dct ks xs) => .ok (.dct ks xs) (μ1.set k .dead)
      | _ => .bad
    | _ => .bad) := rfl
@[simp] theorem s_rStar (f : RE) (fs : RA) (δ : Sl) (μ : List Ob) : rStar f fs δ μ = ((f δ μ).bind fun d μ1 => match d.view μ1 with
    | .lst xs => (fs δ μ1).bind fun ds μ2 => .ok (xs ++ ds) μ2
    | .tup xs => (fs δ μ1).bind fun ds μ2 => .ok (xs ++ ds) μ2
    | _ => .bad) := rfl
@[simp] theorem s_rFld (C : Addr) (f : Str) (fe : RE) (δ : Sl) (μ : List Ob) : rFld C f fe δ μ = ((fe δ μ).bind fun d μ1 => fldD C f d μ1) := rfl
@[simp] theorem s_rSetF (C : Addr) (f : Str) (fo fv : RE) (δ : Sl) (μ : List Ob) : rSetF C f fo fv δ μ = ((fv δ μ).st δ fun d μ1 => (fo δ μ1).st δ fun o μ2 => (stFld C f o d μ2).st δ fun _ μ3 => .nx δ μ3) := rfl
@[simp] theorem s_rMake (C : Addr) (n : Nat) (ct : Ct) (fs : RA) (δ : Sl) (μ : List Ob) : rMake C n ct fs δ μ = ((fs δ μ).bind fun ds μ1 => if ds.length = n then (match ct (.loc μ1.length :: ds) (μ1 ++ [.ins C [] []]) with
    | .ok .non μ2 => (match μ2[μ1.length]? with
      | some (.ins C' fs xs) => .ok (.ins C' fs xs) (μ2.set μ1.length .dead)
      | _ => .bad)
    | _ => .bad)
    else .bad) := rfl
@[simp] theorem s_rP (a : Addr) (ds : List D) (f : RE) (δ : Sl) (μ : List Ob) : rP a ds f δ μ = ((f δ μ).bind fun d μ1 => match d with
    | .vv (.ref b) => if b = a then .ok ds μ1 else .bad
    | _ => .bad) := rfl
@[simp] theorem s_rDc (fi : RA) (t : Tg) (vs : List Nat) (ft : RT) (fk fe : RE) (δ : Sl) (μ : List Ob) : rDc fi t vs ft fk fe δ μ = ((fi δ μ).bind fun ds μ1 => (dcL t vs ft fk fe ds δ μ1 [] []).bind fun p μ2 => .ok (.dct p.1 p.2) μ2) := rfl
@[simp] theorem s_rPar3 (i j l : Nat) (fs : RA) (δ : Sl) (μ : List Ob) : rPar3 i j l fs δ μ = ((fs δ μ).st δ fun ds μ1 => match ds with
    | [d, e, h] => .nx (((δ.set i (some d)).set j (some e)).set l (some h)) μ1
    | _ => .bad) := rfl
end DL

/-! The data layer, q: operations on known looks (simp). -/
namespace DL
open PySem L2
def lview (k : Nat) : Option Ob → D
  | some (.lst xs) => .lst xs
  | some (.dct ks xs) => .dct ks xs
  | some (.ins C fs xs) => .ins C fs xs
  | _ => .loc k
section
variable {μ : List Ob} {k : Nat} {xs ys : List D} {ks : List Key} {C : Addr} {fs : List Str} {d e x y z : D} {i j : Int} {b : Bool} {s t : Str} {ds : List D}
@[simp] theorem lv_loc : (D.loc k).view μ = lview k (μ[k]?) := by
  rw [view_loc]
  unfold lview
  cases μ[k]? with
  | none => rfl
  | some o => cases o <;> rfl
@[simp] theorem lv_lst : lview k (some (.lst xs)) = .lst xs := rfl
@[simp] theorem lv_dct : lview k (some (.dct ks xs)) = .dct ks xs := rfl
@[simp] theorem lv_ins : lview k (some (.ins C fs xs)) = .ins C fs xs := rfl
@[simp] theorem vw_int : (D.int i).view μ = .int i := rfl
@[simp] theorem vw_bl : (D.bl b).view μ = .bl b := rfl
@[simp] theorem vw_str : (D.str s).view μ = .str s := rfl
@[simp] theorem vw_non : D.non.view μ = .non := rfl
@[simp] theorem vw_tup : (D.tup xs).view μ = .tup xs := rfl
@[simp] theorem vw_lst : (D.lst xs).view μ = .lst xs := rfl
@[simp] theorem vw_frl : (D.frl xs).view μ = .frl xs := rfl
@[simp] theorem vw_dct : (D.dct ks xs).view μ = .dct ks xs := rfl
@[simp] theorem vw_ins : (D.ins C fs xs).view μ = .ins C fs xs := rfl
@[simp] theorem vw_vv {v : V} : (D.vv v).view μ = .vv v := rfl
def optR (o : Option D) (μ : List Ob) : R D := match o with
  | some x => .ok x μ
  | none => .bad
@[simp] theorem optR_some : optR (some x) μ = .ok x μ := rfl
/-! d[e] -/
def getV (d e : D) (μ : List Ob) : R D := match d with
  | .lst xs => match e with
    | .int i => optR (atI xs i) μ
    | _ => .bad
  | .tup xs => match e with
    | .int i => optR (atI xs i) μ
    | _ => .bad
  | .dct ks xs => match e.key with
    | some k => optR (lookD ks xs k) μ
    | none => .bad
  | _ => .bad
@[simp] theorem getD_eq : getD d e μ = getV (d.view μ) e μ := by
  unfold getD getV optR
  cases d.view μ <;> rfl
@[simp] theorem getV_lst : getV (.lst xs) (.int i) μ = optR (atI xs i) μ := rfl
@[simp] theorem getV_tup : getV (.tup xs) (.int i) μ = optR (atI xs i) μ := rfl
@[simp] theorem getV_str : getV (.dct ks xs) (.str s) μ = optR (lookD ks xs (.inr s)) μ := rfl
@[simp] theorem getV_int : getV (.dct ks xs) (.int i) μ = optR (lookD ks xs (.inl i)) μ := rfl
@[simp] theorem atI_0 : atI (x :: xs) 0 = some x := by simp [atI, ixN]
@[simp] theorem atI_1 : atI (x :: y :: xs) 1 = some y := by
  have h : (1 : Int) < ((x :: y :: xs).length : Int) := by simp only [List.length_cons]; omega
  unfold atI ixN
  rw [if_pos (by decide), if_pos h]
  rfl
@[simp] theorem atI_2 : atI (x :: y :: z :: xs) 2 = some z := by
  have h : (2 : Int) < ((x :: y :: z :: xs).length : Int) := by simp only [List.length_cons]; omega
  unfold atI ixN
  rw [if_pos (by decide), if_pos h]
  rfl
theorem atI_lt {n : Nat} (h : n < xs.length) : atI xs (n : Int) = some xs[n] := by
  unfold atI ixN
  rw [if_pos (by omega), if_pos (by omega)]
  simp [h]
theorem atI_in (h0 : 0 ≤ i) (h1 : i < xs.length) : ∃ x, atI xs i = some x ∧ xs[i.toNat]? = some x := by
  unfold atI ixN
  rw [if_pos h0, if_pos h1]
  have h : i.toNat < xs.length := by omega
  exact ⟨xs[i.toNat], by simp [h], by simp [h]⟩
theorem ixN_in {n : Nat} (h0 : 0 ≤ i) (h1 : i < n) : ixN n i = some i.toNat := by
  unfold ixN
  rw [if_pos h0, if_pos h1]
/-! + and the ints -/
def addV (d e : D) (μ : List Ob) : R D := match d, e with
  | .int i, .int j => .ok (.int (i + j)) μ
  | .str x, .str y => if x.length + y.length ≤ 16777216 then .ok (.str (x ++ y)) μ else .bad
  | .lst xs, .lst ys => if xs.length + ys.length ≤ 16777216 then .ok (.lst (xs ++ ys)) μ else .bad
  | .tup xs, .tup ys => if xs.length + ys.length ≤ 16777216 then .ok (.tup (xs ++ ys)) μ else .bad
  | _, _ => .bad
@[simp] theorem addD_eq : addD d e μ = addV (d.view μ) (e.view μ) μ := by
  unfold addD addV
  rfl
@[simp] theorem addV_int : addV (.int i) (.int j) μ = .ok (.int (i + j)) μ := rfl
@[simp] theorem addV_str : addV (.str s) (.str t) μ = if s.length + t.length ≤ 16777216 then .ok (.str (s ++ t)) μ else .bad := rfl
@[simp] theorem addV_lst : addV (.lst xs) (.lst ys) μ = if xs.length + ys.length ≤ 16777216 then .ok (.lst (xs ++ ys)) μ else .bad := rfl
@[simp] theorem intI_ii {C : Int → Int → Bool} {g : Int → Int → Int} : intI C g (.int i) (.int j) μ = if C i j then .ok (.int (g i j)) μ else .bad := rfl
@[simp] theorem intI0_ii {g : Int → Int → Int} : intI0 g (.int i) (.int j) μ = .ok (.int (g i j)) μ := rfl
@[simp] theorem intB_ii {g : Int → Int → Bool} : intB g (.int i) (.int j) μ = .ok (.bl (g i j)) μ := rfl
@[simp] theorem mulC_r (h : -18446744073709551616 < j ∧ j < 18446744073709551616) : mulC i j = true := by
  unfold mulC
  rw [Bool.or_eq_true]
  exact .inr (by rw [Bool.and_eq_true, decide_eq_true_iff, decide_eq_true_iff]; exact h)
/-! built-ins -/
@[simp] theorem intD_int : intD [.int i] μ = .ok (.int i) μ := rfl
@[simp] theorem max2D_ii : max2D [.int i, .int j] μ = .ok (.int (if j > i then j else i)) μ := rfl
def lenV (d : D) (μ : List Ob) : R D := match d with
  | .str z => if z.length ≤ 16777216 then .ok (.int (z.length : Nat)) μ else .bad
  | .lst xs => .ok (.int (xs.length : Nat)) μ
  | .frl xs => .ok (.int (xs.length : Nat)) μ
  | .tup xs => .ok (.int (xs.length : Nat)) μ
  | .dct _ xs => .ok (.int (xs.length : Nat)) μ
  | _ => .bad
@[simp] theorem lenD_eq : lenD [d] μ = lenV (d.view μ) μ := by unfold lenD lenV; rfl
@[simp] theorem lenV_lst : lenV (.lst xs) μ = .ok (.int (xs.length : Nat)) μ := rfl
@[simp] theorem lenV_frl : lenV (.frl xs) μ = .ok (.int (xs.length : Nat)) μ := rfl
@[simp] theorem lenV_tup : lenV (.tup xs) μ = .ok (.int (xs.length : Nat)) μ := rfl
@[simp] theorem lenV_dct : lenV (.dct ks xs) μ = .ok (.int (xs.length : Nat)) μ := rfl
@[simp] theorem listD_eq {m : Bool} : listD m [d] μ = match elsD (d.view μ) with
    | some xs => if m then .ok (.loc μ.length) (μ ++ [.lst xs]) else .ok (.lst xs) μ
    | none => .bad := rfl
@[simp] theorem els_lst : elsD (.lst xs) = some xs := rfl
@[simp] theorem els_frl : elsD (.frl xs) = some xs := rfl
@[simp] theorem els_tup : elsD (.tup xs) = some xs := rfl
def tupV (d : D) (μ : List Ob) : R D := match d with
  | .lst xs => .ok (.tup xs) μ
  | .tup xs => .ok (.tup xs) μ
  | _ => .bad
@[simp] theorem tupD_eq : tupD [d] μ = tupV (d.view μ) μ := rfl
@[simp] theorem tupV_lst : tupV (.lst xs) μ = .ok (.tup xs) μ := rfl
@[simp] theorem tupV_tup : tupV (.tup xs) μ = .ok (.tup xs) μ := rfl
def sliceV (d : D) (lo hi : Option Int) (μ : List Ob) : R D := match d with
  | .lst xs => .ok (.lst (cutL xs lo hi)) μ
  | .tup xs => .ok (.tup (cutL xs lo hi)) μ
  | _ => .bad
@[simp] theorem sliceD_eq {lo hi : Option Int} : sliceD d lo hi μ = sliceV (d.view μ) lo hi μ := rfl
@[simp] theorem sliceV_lst {lo hi : Option Int} : sliceV (.lst xs) lo hi μ = .ok (.lst (cutL xs lo hi)) μ := rfl
/-! in -/
@[simp] theorem inD_lst {neg : Bool} : inD neg d (.lst xs) μ = if (d.okd 60 && okdL 60 xs) = true then .ok (.bl (if neg = true then !xs.any fun z => z.eqb d else xs.any fun z => z.eqb d)) μ else .bad := rfl
@[simp] theorem inD_tup {neg : Bool} : inD neg d (.tup xs) μ = if (d.okd 60 && okdL 60 xs) = true then .ok (.bl (if neg = true then !xs.any fun z => z.eqb d else xs.any fun z => z.eqb d)) μ else .bad := rfl
@[simp] theorem inD_dct {neg : Bool} : inD neg (.str s) (.dct ks xs) μ = .ok (.bl (if neg = true then !(lookD ks xs (.inr s)).isSome else (lookD ks xs (.inr s)).isSome)) μ := rfl
/-! what the store says -/
theorem at_set {n m : Nat} {o : Ob} (h : n < μ.length) : (μ.set n o)[m]? = if n = m then some o else μ[m]? := by
  by_cases e : n = m
  · subst e
    rw [if_pos rfl, List.getElem?_set_self h]
  · rw [if_neg e, List.getElem?_set_ne e]
theorem lt_of {n : Nat} {o : Ob} (h : μ[n]? = some o) : n < μ.length := (List.getElem?_eq_some_iff.mp h).1
end
end DL

namespace L14
open PySem L2 DL
def top (i : Nat) : Stmt := PySem.Challenge.pw_findstold_k14_whole_texts.main.body.getD i (.Pass ⟨0, 0, 0, 0⟩)
structure Ad where
  (kBook cPARTS cPARTS_0 cPARTS_1 cPARTS_2 cPARTS_3 cPARTS_4 cPARTS_5 cPRICES cWORDS : Addr)
def d_PARTS (a : Ad) : D := .vv (.ref a.cPARTS)
def kv_PARTS (a : Ad) : List (Key × V) := [(.inr "counts", .ref a.cPARTS_0), (.inr "evening", .ref a.cPARTS_1), (.inr "lost", .ref a.cPARTS_2), (.inr "remembers", .ref a.cPARTS_3), (.inr "search", .ref a.cPARTS_4), (.inr "tells", .ref a.cPARTS_5)]
def xs_PARTS : List D := [.tup [.str "comes", .str "fits"], .tup [.str "looks", .str "sends"], .tup [.str "again", .str "noted"], .tup [.str "number", .str "price", .str "thing"], .tup [.str "forgets", .str "keeps"], .tup [.str "evening", .str "now"]]
def d_PRICES (a : Ad) : D := .tup [.str "2", .str "3"]
def d_WORDS (a : Ad) : D := .tup [.str "anew", .str "lose", .str "number", .str "pause", .str "price", .str "search"]
abbrev s_is_integer : Stmt := top 10
abbrev N_is_integer : List Str := ["thing", "low", "high"]
abbrev P_is_integer : List Str := ["thing", "low", "high"]
theorem sc_is_integer : FnScope N_is_integer P_is_integer (defScope s_is_integer) := ⟨rfl, rfl, rfl, by decide +kernel, rfl, by decide +kernel, by decide +kernel⟩
def r_is_integer (a : Ad) : RS := (rRet (rAndV (rCB (isiD (.ty "int") (isT "int")) (rCons (rVar 0) (rCons (rC (.vv (.ty "int"))) rNil))) (rAndV (rNotV (rCB (isiD (.ty "bool") (isT "bool")) (rCons (rVar 0) (rCons (rC (.vv (.ty "bool"))) rNil)))) (rChain leD leD (rVar 1) (rVar 0) (rVar 2)))))
def ct_is_integer (a : Ad) : Ct := ctOf 0 (r_is_integer a)
abbrev s_is_word : Stmt := top 11
abbrev N_is_word : List Str := ["thing", "words"]
abbrev P_is_word : List Str := ["thing", "words"]
theorem sc_is_word : FnScope N_is_word P_is_word (defScope s_is_word) := ⟨rfl, rfl, rfl, by decide +kernel, rfl, by decide +kernel, by decide +kernel⟩
def r_is_word (a : Ad) : RS := (rRet (rAndV (rCB (isiD (.ty "str") (isT "str")) (rCons (rVar 0) (rCons (rC (.vv (.ty "str"))) rNil))) (rBin (inD false) (rVar 0) (rVar 1))))
def ct_is_word (a : Ad) : Ct := ctOf 0 (r_is_word a)
abbrev s_check_rule : Stmt := top 12
abbrev N_check_rule : List Str := ["rule", "part", "words"]
abbrev P_check_rule : List Str := ["rule"]
theorem sc_check_rule : FnScope N_check_rule P_check_rule (defScope s_check_rule) := ⟨rfl, rfl, rfl, by decide +kernel, rfl, by decide +kernel, by decide +kernel⟩
def r_check_rule (a : Ad) : RS := (rSeq (rIfS (rOrT (rNotT (rT (rCB (isiD (.ty "dict") (isT "dict")) (rCons (rVar 0) (rCons (rC (.vv (.ty "dict"))) rNil))))) (rOrT (rT (rBin neD (rCB lenD (rCons (rVar 0) rNil)) (rCB (onP a.cPARTS fun μ => .ok (.int ((kv_PARTS a).length : Nat)) μ) (rCons (rC (d_PARTS a)) rNil)))) (rNotT (rT (rCB (allD false) (rCons (rLc (rItems (rVar 0)) (.nm 1) (([("part", 1)] : List (Str × Nat)).map (·.2)) rYes (rCall 2 (ct_is_word a) (rCons (rVar 1) (rCons (rCB (onP a.cPARTS fun μ => .ok (.lst (((kv_PARTS a).map (·.1)).map Key.d)) μ) (rCons (rC (d_PARTS a)) rNil)) rNil)))) rNil)))))) (fun _ _ => .bad) (fun δ μ => .nx δ μ))
    (rFor (rP a.cPARTS (pairsP ((kv_PARTS a).map (·.1)) xs_PARTS) (rC (d_PARTS a))) (.tp [1, 2]) (rIfS (rNotT (rT (rCall 2 (ct_is_word a) (rCons (rBin getD (rVar 0) (rVar 1)) (rCons (rVar 2) rNil))))) (fun _ _ => .bad) (fun δ μ => .nx δ μ))))
def ct_check_rule (a : Ad) : Ct := ctOf 2 (r_check_rule a)
abbrev s_Book_init : Stmt := inClass (top 13) 0
abbrev N_Book_init : List Str := ["self", "prices", "rule", "words", "part", "word"]
abbrev P_Book_init : List Str := ["self", "prices", "rule", "words"]
theorem sc_Book_init : FnScope N_Book_init P_Book_init (defScope s_Book_init) := ⟨rfl, rfl, rfl, by decide +kernel, rfl, by decide +kernel, by decide +kernel⟩
def r_Book_init (a : Ad) : RS := (rSeq (rIfS (rNotT (rT (rCall 3 (ct_is_integer a) (rCons (rVar 1) (rCons (rC (.int 2)) (rCons (rC (.int 3)) rNil)))))) (fun _ _ => .bad) (fun δ μ => .nx δ μ))
    (rSeq (rDrop (rCall 1 (ct_check_rule a) (rCons (rVar 2) rNil)))
    (rSeq (rIfS (rOrT (rNotT (rT (rCB (isiD (.ty "tuple") (isT "tuple")) (rCons (rVar 3) (rCons (rC (.vv (.ty "tuple"))) rNil))))) (rNotT (rT (rCB (allD false) (rCons (rLc (rItems (rVar 3)) (.nm 5) (([("word", 5)] : List (Str × Nat)).map (·.2)) rYes (rCall 2 (ct_is_word a) (rCons (rVar 5) (rCons (rC (d_WORDS a)) rNil)))) rNil))))) (fun _ _ => .bad) (fun δ μ => .nx δ μ))
    (rSeq (rIfS (rT (rBin neD (rLc (rItems (rC (d_WORDS a))) (.nm 5) (([("word", 5)] : List (Str × Nat)).map (·.2)) (rT (rBin (inD false) (rVar 5) (rVar 3))) (rVar 5)) (rCB (listD false) (rCons (rVar 3) rNil)))) (fun _ _ => .bad) (fun δ μ => .nx δ μ))
    (rSeq (rSetF a.kBook "highest" (rVar 0) (rVar 1))
    (rSeq (rSetF a.kBook "terms" (rVar 0) (rDc (rP a.cPARTS (((kv_PARTS a).map (·.1)).map Key.d) (rC (d_PARTS a))) (.nm 4) (([("part", 4)] : List (Str × Nat)).map (·.2)) rYes (rVar 4) (rBin getD (rVar 2) (rVar 4))))
    (rSetF a.kBook "kinds" (rVar 0) (rVar 3))))))))
def cm_Book (a : Ad) : Ct := ctOf 2 (r_Book_init a)
abbrev s_Book_eq : Stmt := inClass (top 13) 5
abbrev N_Book_eq : List Str := ["self", "other"]
abbrev P_Book_eq : List Str := ["self", "other"]
theorem sc_Book_eq : FnScope N_Book_eq P_Book_eq (defScope s_Book_eq) := ⟨rfl, rfl, rfl, by decide +kernel, rfl, by decide +kernel, by decide +kernel⟩
def r_Book_eq (a : Ad) : RS := (rSeq (rIfS (rNotT (rT (rCB (isiD (.ref a.kBook) (isK a.kBook)) (rCons (rVar 1) (rCons (rC (.vv (.ref a.kBook))) rNil))))) (rRet (rC (.bl false))) (fun δ μ => .nx δ μ))
    (rRet (rBin eqTD (rTup (rCons (rFld a.kBook "highest" (rVar 0)) (rCons (rFld a.kBook "terms" (rVar 0)) (rCons (rFld a.kBook "kinds" (rVar 0)) rNil)))) (rTup (rCons (rFld a.kBook "highest" (rVar 1)) (rCons (rFld a.kBook "terms" (rVar 1)) (rCons (rFld a.kBook "kinds" (rVar 1)) rNil)))))))
def cq_Book (a : Ad) : Ct := ctOf 0 (r_Book_eq a)
abbrev s_write : Stmt := top 16
abbrev N_write : List Str := ["book", "lines", "part", "word"]
abbrev P_write : List Str := ["book"]
theorem sc_write : FnScope N_write P_write (defScope s_write) := ⟨rfl, rfl, rfl, by decide +kernel, rfl, by decide +kernel, by decide +kernel⟩
def r_write (a : Ad) : RS := (rSeq (rSet 1 (rLstM (rCons (rBin addD (rC (.str "prices ")) (rCB strD (rCons (rFld a.kBook "highest" (rVar 0)) rNil))) rNil)))
    (rSeq (rDrop (rMt isLst exD (rVar 1) (rCons (rLc (rItemsM (rFld a.kBook "terms" (rVar 0))) (.tp [2, 3]) (([("part", 2), ("word", 3)] : List (Str × Nat)).map (·.2)) rYes (rBin addD (rBin addD (rVar 2) (rC (.str " "))) (rVar 3))) rNil)))
    (rRet (rMt isStr joinD (rC (.str "\n")) (rCons (rLst (rStar (rVar 1) (rCons (rMt isStr joinD (rC (.str " ")) (rCons (rLst (rCons (rC (.str "words")) (rStar (rFld a.kBook "kinds" (rVar 0)) rNil))) rNil)) rNil))) rNil)))))
def ct_write (a : Ad) : Ct := ctOf 3 (r_write a)
abbrev s_line_at : Stmt := top 17
abbrev N_line_at : List Str := ["lines", "index"]
abbrev P_line_at : List Str := ["lines", "index"]
theorem sc_line_at : FnScope N_line_at P_line_at (defScope s_line_at) := ⟨rfl, rfl, rfl, by decide +kernel, rfl, by decide +kernel, by decide +kernel⟩
def r_line_at (a : Ad) : RS := (rSeq (rIfS (rT (rBin geD (rVar 1) (rCB lenD (rCons (rVar 0) rNil)))) (fun _ _ => .bad) (fun δ μ => .nx δ μ))
    (rRet (rMt isStr splitD (rBin getD (rVar 0) (rVar 1)) (rCons (rC (.str " ")) rNil))))
def ct_line_at (a : Ad) : Ct := ctOf 0 (r_line_at a)
abbrev s_word_at : Stmt := top 18
abbrev N_word_at : List Str := ["lines", "index", "part", "allowed", "words"]
abbrev P_word_at : List Str := ["lines", "index", "part", "allowed"]
theorem sc_word_at : FnScope N_word_at P_word_at (defScope s_word_at) := ⟨rfl, rfl, rfl, by decide +kernel, rfl, by decide +kernel, by decide +kernel⟩
def r_word_at (a : Ad) : RS := (rSeq (rSet 4 (rCall 2 (ct_line_at a) (rCons (rVar 0) (rCons (rVar 1) rNil))))
    (rSeq (rIfS (rOrT (rT (rBin neD (rCB lenD (rCons (rVar 4) rNil)) (rC (.int 2)))) (rOrT (rT (rBin neD (rBin getD (rVar 4) (rC (.int 0))) (rVar 2))) (rT (rBin (inD true) (rBin getD (rVar 4) (rC (.int 1))) (rVar 3))))) (fun _ _ => .bad) (fun δ μ => .nx δ μ))
    (rRet (rBin getD (rVar 4) (rC (.int 1))))))
def ct_word_at (a : Ad) : Ct := ctOf 1 (r_word_at a)
abbrev s_words_at : Stmt := top 19
abbrev N_words_at : List Str := ["lines", "index", "words", "word"]
abbrev P_words_at : List Str := ["lines", "index"]
theorem sc_words_at : FnScope N_words_at P_words_at (defScope s_words_at) := ⟨rfl, rfl, rfl, by decide +kernel, rfl, by decide +kernel, by decide +kernel⟩
def r_words_at (a : Ad) : RS := (rSeq (rSet 2 (rCall 2 (ct_line_at a) (rCons (rVar 0) (rCons (rVar 1) rNil))))
    (rSeq (rIfS (rOrT (rT (rBin neD (rBin getD (rVar 2) (rC (.int 0))) (rC (.str "words")))) (rT (rBin neD (rLc (rItems (rC (d_WORDS a))) (.nm 3) (([("word", 3)] : List (Str × Nat)).map (·.2)) (rT (rBin (inD false) (rVar 3) (rSlice (rVar 2) (rSome (rC (.int 1))) rNone))) (rVar 3)) (rSlice (rVar 2) (rSome (rC (.int 1))) rNone)))) (fun _ _ => .bad) (fun δ μ => .nx δ μ))
    (rRet (rCB tupD (rCons (rSlice (rVar 2) (rSome (rC (.int 1))) rNone) rNil)))))
def ct_words_at (a : Ad) : Ct := ctOf 2 (r_words_at a)
abbrev s_read : Stmt := top 20
abbrev N_read : List Str := ["text", "lines", "rule", "index", "prices", "part", "allowed", "words"]
abbrev P_read : List Str := ["text"]
theorem sc_read : FnScope N_read P_read (defScope s_read) := ⟨rfl, rfl, rfl, by decide +kernel, rfl, by decide +kernel, by decide +kernel⟩
def r_read (a : Ad) : RS := (rSeq (rPar3 1 2 3 (rCons (rMt isStr splitD (rVar 0) (rCons (rC (.str "\n")) rNil)) (rCons rDnew (rCons (rC (.int 1)) rNil))))
    (rSeq (rSet 4 (rCB intD (rCons (rCall 4 (ct_word_at a) (rCons (rVar 1) (rCons (rC (.int 0)) (rCons (rC (.str "prices")) (rCons (rC (d_PRICES a)) rNil))))) rNil)))
    (rSeq (rFor (rP a.cPARTS (pairsP ((kv_PARTS a).map (·.1)) xs_PARTS) (rC (d_PARTS a))) (.tp [5, 6]) (rSeq (rAsgD (gSt (rVar 2) (rVar 5)) (rCall 4 (ct_word_at a) (rCons (rVar 1) (rCons (rVar 3) (rCons (rVar 5) (rCons (rVar 6) rNil))))))
    (rAug 3 (fun i j => i + j) (rC (.int 1)))))
    (rSeq (rSet 7 (rCall 2 (ct_words_at a) (rCons (rVar 1) (rCons (rVar 3) rNil))))
    (rSeq (rIfS (rT (rBin gtD (rCB lenD (rCons (rVar 1) rNil)) (rBin addD (rVar 3) (rC (.int 1))))) (fun _ _ => .bad) (fun δ μ => .nx δ μ))
    (rRet (rMake a.kBook 3 (cm_Book a) (rCons (rVar 4) (rCons (rFrz (rVar 2)) (rCons (rVar 7) rNil))))))))))
def ct_read (a : Ad) : Ct := ctOf 7 (r_read a)
abbrev s_law_mix : Stmt := top 22
abbrev N_law_mix : List Str := ["_law_script", "_law_seed", "_law_state", "_law_cell"]
abbrev P_law_mix : List Str := ["_law_script", "_law_seed"]
theorem sc_law_mix : FnScope N_law_mix P_law_mix (defScope s_law_mix) := ⟨rfl, rfl, rfl, by decide +kernel, rfl, by decide +kernel, by decide +kernel⟩
def r_law_mix (a : Ad) : RS := (rSeq (rSet 2 (rVar 1))
    (rSeq (rFor (rItems (rVar 0)) (.nm 3) (rSet 2 (rBin modD (rCB intD (rCons (rBin addD (rBin addD (rBin mulD (rVar 2) (rC (.int 48271))) (rBin modD (rCB intD (rCons (rVar 3) rNil)) (rC (.int 2147483629)))) (rC (.int 1))) rNil)) (rC (.int 2147483647)))))
    (rRet (rLstM (rCons (rVar 2) (rCons (rCB (listD true) (rCons (rVar 0) rNil)) (rCons (rC (.int 0)) rNil)))))))
def ct__law_mix (a : Ad) : Ct := ctOf 2 (r_law_mix a)
abbrev s_law_next : Stmt := top 23
abbrev N_law_next : List Str := ["_law_h", "_law_cap", "_law_cell"]
abbrev P_law_next : List Str := ["_law_h", "_law_cap"]
theorem sc_law_next : FnScope N_law_next P_law_next (defScope s_law_next) := ⟨rfl, rfl, rfl, by decide +kernel, rfl, by decide +kernel, by decide +kernel⟩
def r_law_next (a : Ad) : RS := (rSeq (rSet 2 (rBin getD (rBin addD (rBin getD (rVar 0) (rC (.int 1))) (rLst (rCons (rC (.int 0)) rNil))) (rBin modD (rCB intD (rCons (rBin getD (rVar 0) (rC (.int 2))) rNil)) (rCB max2D (rCons (rC (.int 1)) (rCons (rCB lenD (rCons (rBin getD (rVar 0) (rC (.int 1))) rNil)) rNil))))))
    (rSeq (rIfS (rT (rBin geD (rVar 2) (rBin powD (rC (.int 10)) (rC (.int 18))))) (rSeq (rAsgD (gSt (rBin getD (rVar 0) (rC (.int 1))) (rBin modD (rCB intD (rCons (rBin getD (rVar 0) (rC (.int 2))) rNil)) (rCB lenD (rCons (rBin getD (rVar 0) (rC (.int 1))) rNil)))) (rBin divD (rVar 2) (rVar 1)))
    (rRet (rBin modD (rCB intD (rCons (rVar 2) rNil)) (rVar 1)))) (fun δ μ => .nx δ μ))
    (rSeq (rAsgD (gSt (rVar 0) (rC (.int 0))) (rBin modD (rCB intD (rCons (rBin addD (rBin addD (rBin mulD (rBin getD (rVar 0) (rC (.int 0))) (rC (.int 48271))) (rBin mulD (rVar 2) (rC (.int 69621)))) (rC (.int 11))) rNil)) (rC (.int 2147483647))))
    (rSeq (rAsgD (gSt (rVar 0) (rC (.int 2))) (rBin addD (rBin getD (rVar 0) (rC (.int 2))) (rC (.int 1))))
    (rRet (rBin modD (rCB intD (rCons (rBin divD (rBin getD (rVar 0) (rC (.int 0))) (rC (.int 7))) rNil)) (rVar 1)))))))
def ct__law_next (a : Ad) : Ct := ctOf 1 (r_law_next a)
abbrev s_law_pick : Stmt := top 24
abbrev N_law_pick : List Str := ["_law_h", "_law_things"]
abbrev P_law_pick : List Str := ["_law_h", "_law_things"]
theorem sc_law_pick : FnScope N_law_pick P_law_pick (defScope s_law_pick) := ⟨rfl, rfl, rfl, by decide +kernel, rfl, by decide +kernel, by decide +kernel⟩
def r_law_pick (a : Ad) : RS := (rRet (rBin getD (rVar 1) (rCall 2 (ct__law_next a) (rCons (rVar 0) (rCons (rCB lenD (rCons (rVar 1) rNil)) rNil)))))
def ct__law_pick (a : Ad) : Ct := ctOf 0 (r_law_pick a)
abbrev s_law_parts : Stmt := top 25
abbrev N_law_parts : List Str := ["_law_found"]
abbrev P_law_parts : List Str := []
theorem sc_law_parts : FnScope N_law_parts P_law_parts (defScope s_law_parts) := ⟨rfl, rfl, rfl, by decide +kernel, rfl, by decide +kernel, by decide +kernel⟩
def r_law_parts (a : Ad) : RS := (rSeq (rSet 0 (rLstM (rCons (rLst (rCons (rC (.str "counts")) (rCons (rC (.str "comes")) (rCons (rC (.str "fits")) rNil)))) (rCons (rLst (rCons (rC (.str "evening")) (rCons (rC (.str "looks")) (rCons (rC (.str "sends")) rNil)))) (rCons (rLst (rCons (rC (.str "lost")) (rCons (rC (.str "again")) (rCons (rC (.str "noted")) rNil)))) rNil)))))
    (rSeq (rDrop (rMt isLst apD (rVar 0) (rCons (rLst (rCons (rC (.str "remembers")) (rCons (rC (.str "number")) (rCons (rC (.str "price")) (rCons (rC (.str "thing")) rNil))))) rNil)))
    (rRet (rBin addD (rVar 0) (rLst (rCons (rLst (rCons (rC (.str "search")) (rCons (rC (.str "forgets")) (rCons (rC (.str "keeps")) rNil)))) (rCons (rLst (rCons (rC (.str "tells")) (rCons (rC (.str "evening")) (rCons (rC (.str "now")) rNil)))) rNil)))))))
def ct__law_parts (a : Ad) : Ct := ctOf 1 (r_law_parts a)
abbrev s_law_rule : Stmt := top 26
abbrev N_law_rule : List Str := ["_law_h", "_law_rule_here", "_law_row"]
abbrev P_law_rule : List Str := ["_law_h"]
theorem sc_law_rule : FnScope N_law_rule P_law_rule (defScope s_law_rule) := ⟨rfl, rfl, rfl, by decide +kernel, rfl, by decide +kernel, by decide +kernel⟩
def r_law_rule (a : Ad) : RS := (rSeq (rSet 1 rDnew)
    (rSeq (rFor (rItems (fun _ μ => noX (ct__law_parts a [] μ))) (.nm 2) (rAsgD (gSt (rVar 1) (rBin getD (rVar 2) (rC (.int 0)))) (rCall 2 (ct__law_pick a) (rCons (rVar 0) (rCons (rSlice (rVar 2) (rSome (rC (.int 1))) rNone) rNil)))))
    (rSeq (rIfS (rT (rBin eqD (rCall 2 (ct__law_next a) (rCons (rVar 0) (rCons (rC (.int 2)) rNil))) (rC (.int 0)))) (rAsgD (gSt (rVar 1) (rC (.str "tells"))) (rC (.str "evening"))) (fun δ μ => .nx δ μ))
    (rRet (rFrz (rVar 1))))))
def ct__law_rule (a : Ad) : Ct := ctOf 2 (r_law_rule a)
abbrev s_law_words : Stmt := top 27
abbrev N_law_words : List Str := ["_law_h", "_law_many", "_law_every", "_law_found", "_law_k", "_law_word"]
abbrev P_law_words : List Str := ["_law_h", "_law_many"]
theorem sc_law_words : FnScope N_law_words P_law_words (defScope s_law_words) := ⟨rfl, rfl, rfl, by decide +kernel, rfl, by decide +kernel, by decide +kernel⟩
def r_law_words (a : Ad) : RS := (rSeq (rSet 2 (rLst (rCons (rC (.str "anew")) (rCons (rC (.str "lose")) (rCons (rC (.str "number")) (rCons (rC (.str "pause")) (rCons (rC (.str "price")) (rCons (rC (.str "search")) rNil))))))))
    (rSeq (rSet 3 (rLc (rRange1 (rCons (rCall 2 (ct__law_next a) (rCons (rVar 0) (rCons (rBin addD (rVar 1) (rC (.int 1))) rNil))) rNil)) (.nm 4) (([("_law_k", 4)] : List (Str × Nat)).map (·.2)) rYes (rCall 2 (ct__law_pick a) (rCons (rVar 0) (rCons (rVar 2) rNil)))))
    (rRet (rCB tupD (rCons (rLc (rItems (rVar 2)) (.nm 5) (([("_law_word", 5)] : List (Str × Nat)).map (·.2)) (rT (rBin (inD false) (rVar 5) (rVar 3))) (rVar 5)) rNil)))))
def ct__law_words (a : Ad) : Ct := ctOf 4 (r_law_words a)
abbrev s_law_draw : Stmt := top 28
abbrev N_law_draw : List Str := ["_law_h"]
abbrev P_law_draw : List Str := ["_law_h"]
theorem sc_law_draw : FnScope N_law_draw P_law_draw (defScope s_law_draw) := ⟨rfl, rfl, rfl, by decide +kernel, rfl, by decide +kernel, by decide +kernel⟩
def r_law_draw (a : Ad) : RS := (rRet (rLstM (rCons (rC (.int 2)) (rCons (rCall 1 (ct__law_rule a) (rCons (rVar 0) rNil)) (rCons (rCall 2 (ct__law_words a) (rCons (rVar 0) (rCons (rC (.int 3)) rNil))) rNil)))))
def ct__law_draw (a : Ad) : Ct := ctOf 0 (r_law_draw a)
abbrev s_law_built : Stmt := top 29
abbrev N_law_built : List Str := ["_law_row"]
abbrev P_law_built : List Str := ["_law_row"]
theorem sc_law_built : FnScope N_law_built P_law_built (defScope s_law_built) := ⟨rfl, rfl, rfl, by decide +kernel, rfl, by decide +kernel, by decide +kernel⟩
def r_law_built (a : Ad) : RS := (rRet (rMake a.kBook 3 (cm_Book a) (rCons (rBin getD (rVar 0) (rC (.int 0))) (rCons (rBin getD (rVar 0) (rC (.int 1))) (rCons (rBin getD (rVar 0) (rC (.int 2))) rNil)))))
def ct__law_built (a : Ad) : Ct := ctOf 0 (r_law_built a)
abbrev s_law : Stmt := top 30
abbrev N_law : List Str := ["_law_script", "_law_h", "_law_turn", "_law_row", "_law_lines", "_law_text", "_law_part"]
abbrev P_law : List Str := ["_law_script"]
theorem sc_law : FnScope N_law P_law (defScope s_law) := ⟨rfl, rfl, rfl, by decide +kernel, rfl, by decide +kernel, by decide +kernel⟩
def r_law (a : Ad) : RS := (rSeq (rSet 1 (rCall 2 (ct__law_mix a) (rCons (rVar 0) (rCons (rC (.int 14)) rNil))))
    (rSeq (rFor (rRange1 (rCons (rC (.int 12)) rNil)) (.nm 2) (rSeq (rSet 3 (rCall 1 (ct__law_draw a) (rCons (rVar 1) rNil)))
    (rSeq (rAsgD (gTp 2 (gCons (gSt (rVar 3) (rC (.int 0))) (gCons (gSt (rVar 3) (rC (.int 2))) gNil))) (rTup (rCons (rBin addD (rC (.int 2)) (rCall 2 (ct__law_next a) (rCons (rVar 1) (rCons (rC (.int 2)) rNil)))) (rCons (rCall 2 (ct__law_words a) (rCons (rVar 1) (rCons (rC (.int 9)) rNil))) rNil))))
    (rSeq (rSet 4 (rBin addD (rLst (rCons (rBin addD (rC (.str "prices ")) (rCB strD (rCons (rBin getD (rVar 3) (rC (.int 0))) rNil))) rNil)) (rLc (rItems (fun _ μ => noX (ct__law_parts a [] μ))) (.nm 6) (([("_law_part", 6)] : List (Str × Nat)).map (·.2)) rYes (rBin addD (rBin addD (rBin getD (rVar 6) (rC (.int 0))) (rC (.str " "))) (rBin getD (rBin getD (rVar 3) (rC (.int 1))) (rBin getD (rVar 6) (rC (.int 0))))))))
    (rSeq (rSet 5 (rMt isStr joinD (rC (.str "\n")) (rCons (rBin addD (rVar 4) (rLst (rCons (rMt isStr joinD (rC (.str " ")) (rCons (rBin addD (rLst (rCons (rC (.str "words")) rNil)) (rCB (listD false) (rCons (rBin getD (rVar 3) (rC (.int 2))) rNil))) rNil)) rNil))) rNil)))
    (rIfS (rOrT (rT (rBin neD (rCall 1 (ct_write a) (rCons (rCall 1 (ct__law_built a) (rCons (rVar 3) rNil)) rNil)) (rVar 5))) (rOrT (rNotT (rT (rBin (ownD a.kBook (cq_Book a)) (rCall 1 (ct_read a) (rCons (rVar 5) rNil)) (rCall 1 (ct__law_built a) (rCons (rVar 3) rNil))))) (rT (rBin neD (rCall 1 (ct_write a) (rCons (rCall 1 (ct_read a) (rCons (rVar 5) rNil)) rNil)) (rVar 5))))) (rRet (rC (.bl false))) (fun δ μ => .nx δ μ)))))))
    (rRet (rC (.bl true)))))
def ct_law (a : Ad) : Ct := ctOf 6 (r_law a)
structure Txt (K : PySem.W.Frag) (mg : Str → Option Value) (w : World) (a : Ad) : Prop where
  g_Book : mg "Book" = some (.ref a.kBook)
  g_PARTS : mg "PARTS" = some (.ref a.cPARTS)
  D_PARTS : KDat K w a.cPARTS (kv_PARTS a)
  l_PARTS : ∀ α F, IsL K α F ((kv_PARTS a).map (·.2)) xs_PARTS
  g_PRICES : mg "PRICES" = some (.ref a.cPRICES)
  i_PRICES : ∀ α F, Is K α F (.ref a.cPRICES) (d_PRICES a)
  g_WORDS : mg "WORDS" = some (.ref a.cWORDS)
  i_WORDS : ∀ α F, Is K α F (.ref a.cWORDS) (d_WORDS a)
  n_all : mg "all" = none
  n_bool : mg "bool" = none
  n_dict : mg "dict" = none
  n_int : mg "int" = none
  n_isinstance : mg "isinstance" = none
  n_len : mg "len" = none
  n_list : mg "list" = none
  n_max : mg "max" = none
  n_range : mg "range" = none
  n_str : mg "str" = none
  n_tuple : mg "tuple" = none
  at_Book_highest : At K a.kBook "highest"
  at_Book_kinds : At K a.kBook "kinds"
  at_Book_terms : At K a.kBook "terms"
  is_Book : IsiQ K (.ref a.kBook) (isK a.kBook)
  df_is_integer : Df K mg "is_integer" s_is_integer P_is_integer
  df_is_word : Df K mg "is_word" s_is_word P_is_word
  df_check_rule : Df K mg "check_rule" s_check_rule P_check_rule
  dc_Book : Dc K mg "Book" "Book.__init__" s_Book_init a.kBook P_Book_init
  de_Book : De K "Book.__eq__" s_Book_eq a.kBook P_Book_eq
  df_write : Df K mg "write" s_write P_write
  df_line_at : Df K mg "line_at" s_line_at P_line_at
  df_word_at : Df K mg "word_at" s_word_at P_word_at
  df_words_at : Df K mg "words_at" s_words_at P_words_at
  df_read : Df K mg "read" s_read P_read
  df__law_mix : Df K mg "_law_mix" s_law_mix P_law_mix
  df__law_next : Df K mg "_law_next" s_law_next P_law_next
  df__law_pick : Df K mg "_law_pick" s_law_pick P_law_pick
  df__law_parts : Df K mg "_law_parts" s_law_parts P_law_parts
  df__law_rule : Df K mg "_law_rule" s_law_rule P_law_rule
  df__law_words : Df K mg "_law_words" s_law_words P_law_words
  df__law_draw : Df K mg "_law_draw" s_law_draw P_law_draw
  df__law_built : Df K mg "_law_built" s_law_built P_law_built
section
variable {P : Program} {w : World} {K : PySem.W.Frag} {mg : Str → Option Value} {base : Heap} {a : Ad}
theorem b_is_integer (T : Txt K mg w a)  : Body P w K mg base "is_integer" s_is_integer N_is_integer 0 (r_is_integer a) := by
  intro f cdv A outer s H E g
  unfold r_is_integer
  exact (psd_one (psd_ret (pd_and (pd_isT "int" T.n_isinstance (pda_cons (pd_var 0) (pda_cons (pd_bltn (v := .ty "int") (by rfl) T.n_int PyProof.Rows.boot_int rfl) pda_nil))) (pd_and (pd_not (pd_isT "bool" T.n_isinstance (pda_cons (pd_var 0) (pda_cons (pd_bltn (v := .ty "bool") (by rfl) T.n_bool PyProof.Rows.boot_bool rfl) pda_nil)))) (pd_one (pd_le2 (pd_var 1) (pd_var 0) (pd_var 2)))))))
theorem b_is_word (T : Txt K mg w a)  : Body P w K mg base "is_word" s_is_word N_is_word 0 (r_is_word a) := by
  intro f cdv A outer s H E g
  unfold r_is_word
  exact (psd_one (psd_ret (pd_and (pd_isT "str" T.n_isinstance (pda_cons (pd_var 0) (pda_cons (pd_bltn (v := .ty "str") (by rfl) T.n_str PyProof.Rows.boot_str rfl) pda_nil))) (pd_one (pd_in g.hu (pd_var 0) (pd_var 1))))))
theorem b_check_rule (T : Txt K mg w a) (c_is_word : Cal P w K mg base 1 "is_word" 2 (ct_is_word a)) : Body P w K mg base "check_rule" s_check_rule N_check_rule 1 (r_check_rule a) := by
  intro f cdv A outer s H E g
  unfold r_check_rule
  exact (psd_cons (psd_if (pdt_w (pdw_or (pdt_not (pdt_val (pd_isT "dict" T.n_isinstance (pda_cons (pd_var 0) (pda_cons (pd_bltn (v := .ty "dict") (by rfl) T.n_dict PyProof.Rows.boot_dict rfl) pda_nil))))) (pdw_or (pdt_ne g (pd_len T.n_len (pda_cons (pd_var 0) pda_nil)) (pd_lenP T.D_PARTS T.n_len (pda_cons (pd_glob (v := .ref a.cPARTS) (by rfl) T.g_PARTS rfl (fun _ _ => Is.vv _)) pda_nil))) (pdw_or1 (pdt_not (pdt_val (pd_all g T.n_all (pda_cons (pd_lc (own := ([("part", 1)] : List (Str × Nat))) g (pdi_any (pd_var 0)) (blkOk_of (N := N_check_rule) (sc := (defScope s_check_rule)) (own := ([("part", 1)] : List (Str × Nat))) (by decide +kernel)) (by decide) (fun _ _ _ _ _ => (pdg_nm 1 g.nd)) (fun _ _ _ _ _ g => pdts_nil) (fun _ _ _ _ _ g => (pd_call c_is_word g (pda_cons (pd_var 1) (pda_cons (pd_listP T.D_PARTS g T.n_list (pda_cons (pd_glob (v := .ref a.cPARTS) (by rfl) T.g_PARTS rfl (fun _ _ => Is.vv _)) pda_nil)) pda_nil))))) pda_nil)))))))) (psd_one psd_never) psd_nil)
    (psd_one (psd_for g.po g.calm (pdi_itemsP T.D_PARTS T.l_PARTS (pd_glob (v := .ref a.cPARTS) (by rfl) T.g_PARTS rfl (fun _ _ => Is.vv _))) (pdg_tp g.calm (pgd_cons 1 g.nd (pgd_cons 2 g.nd pgd_nil))) (psd_one (psd_if (pdt_not (pdt_val (pd_call c_is_word g (pda_cons (pd_ix (pd_var 0) (pd_var 1)) (pda_cons (pd_var 2) pda_nil))))) (psd_one psd_never) psd_nil)))))
theorem b_Book_init (T : Txt K mg w a) (c_check_rule : Cal P w K mg base 2 "check_rule" 1 (ct_check_rule a)) (c_is_integer : Cal P w K mg base 1 "is_integer" 3 (ct_is_integer a)) (c_is_word : Cal P w K mg base 1 "is_word" 2 (ct_is_word a)) : Body P w K mg base "Book.__init__" s_Book_init N_Book_init 2 (r_Book_init a) := by
  intro f cdv A outer s H E g
  unfold r_Book_init
  exact (psd_cons (psd_if (pdt_not (pdt_val (pd_call c_is_integer g (pda_cons (pd_var 1) (pda_cons pd_int (pda_cons pd_int pda_nil)))))) (psd_one psd_never) psd_nil)
    (psd_cons (psd_expr (pd_call c_check_rule g (pda_cons (pd_var 2) pda_nil)))
    (psd_cons (psd_if (pdt_w (pdw_or (pdt_not (pdt_val (pd_isT "tuple" T.n_isinstance (pda_cons (pd_var 3) (pda_cons (pd_bltn (v := .ty "tuple") (by rfl) T.n_tuple PyProof.Rows.boot_tuple rfl) pda_nil))))) (pdw_or1 (pdt_not (pdt_val (pd_all g T.n_all (pda_cons (pd_lc (own := ([("word", 5)] : List (Str × Nat))) g (pdi_any (pd_var 3)) (blkOk_of (N := N_Book_init) (sc := (defScope s_Book_init)) (own := ([("word", 5)] : List (Str × Nat))) (by decide +kernel)) (by decide) (fun _ _ _ _ _ => (pdg_nm 5 g.nd)) (fun _ _ _ _ _ g => pdts_nil) (fun _ _ _ _ _ g => (pd_call c_is_word g (pda_cons (pd_var 5) (pda_cons (pd_glob (v := .ref a.cWORDS) (by rfl) T.g_WORDS rfl T.i_WORDS) pda_nil))))) pda_nil))))))) (psd_one psd_never) psd_nil)
    (psd_cons (psd_if (pdt_ne g (pd_lc (own := ([("word", 5)] : List (Str × Nat))) g (pdi_any (pd_glob (v := .ref a.cWORDS) (by rfl) T.g_WORDS rfl T.i_WORDS)) (blkOk_of (N := N_Book_init) (sc := (defScope s_Book_init)) (own := ([("word", 5)] : List (Str × Nat))) (by decide +kernel)) (by decide) (fun _ _ _ _ _ => (pdg_nm 5 g.nd)) (fun _ _ _ _ _ g => (pdts_one (pdt_in g.hu (pd_var 5) (pd_var 3)))) (fun _ _ _ _ _ g => (pd_var 5))) (pd_listC false g T.n_list (pda_cons (pd_var 3) pda_nil))) (psd_one psd_never) psd_nil)
    (psd_cons (psd_fld T.at_Book_highest (pd_var 0) (pd_var 1))
    (psd_cons (psd_fld T.at_Book_terms (pd_var 0) (pd_dc (own := ([("part", 4)] : List (Str × Nat))) g (pdi_keysP T.D_PARTS (pd_glob (v := .ref a.cPARTS) (by rfl) T.g_PARTS rfl (fun _ _ => Is.vv _))) (blkOk_of (N := N_Book_init) (sc := (defScope s_Book_init)) (own := ([("part", 4)] : List (Str × Nat))) (by decide +kernel)) (by decide) (fun _ _ _ _ _ => (pdg_nm 4 g.nd)) (fun _ _ _ _ _ g => pdts_nil) (fun _ _ _ _ _ g => (pd_var 4)) (fun _ _ _ _ _ g => (pd_ix (pd_var 2) (pd_var 4)))))
    (psd_one (psd_fld T.at_Book_kinds (pd_var 0) (pd_var 3)))))))))
theorem b_Book_eq (T : Txt K mg w a)  : Body P w K mg base "Book.__eq__" s_Book_eq N_Book_eq 0 (r_Book_eq a) := by
  intro f cdv A outer s H E g
  unfold r_Book_eq
  exact (psd_cons (psd_if (pdt_not (pdt_val (pd_isK T.n_isinstance T.is_Book (pda_cons (pd_var 1) (pda_cons (pd_glob (v := .ref a.kBook) (by rfl) T.g_Book rfl (fun _ _ => Is.vv _)) pda_nil))))) (psd_one (psd_ret pd_bl)) psd_nil)
    (psd_one (psd_ret (pd_eqT g (pd_tup (pda_cons (pd_fld T.at_Book_highest (pd_var 0)) (pda_cons (pd_fld T.at_Book_terms (pd_var 0)) (pda_cons (pd_fld T.at_Book_kinds (pd_var 0)) pda_nil)))) (pd_tup (pda_cons (pd_fld T.at_Book_highest (pd_var 1)) (pda_cons (pd_fld T.at_Book_terms (pd_var 1)) (pda_cons (pd_fld T.at_Book_kinds (pd_var 1)) pda_nil))))))))
theorem b_write (T : Txt K mg w a)  : Body P w K mg base "write" s_write N_write 0 (r_write a) := by
  intro f cdv A outer s H E g
  unfold r_write
  exact (psd_cons (psd_set 1 g.nd (pd_lstM (pda_cons (pd_add pd_str (pd_strC T.n_str (pda_cons (pd_fld T.at_Book_highest (pd_var 0)) pda_nil))) pda_nil)))
    (psd_cons (psd_expr (pd_extend (pd_var 1) (pda_cons (pd_lc (own := ([("part", 2), ("word", 3)] : List (Str × Nat))) g (pdi_items (pd_fld T.at_Book_terms (pd_var 0))) (blkOk_of (N := N_write) (sc := (defScope s_write)) (own := ([("part", 2), ("word", 3)] : List (Str × Nat))) (by decide +kernel)) (by decide) (fun _ _ _ _ _ => (pdg_tp g.calm (pgd_cons 2 g.nd (pgd_cons 3 g.nd pgd_nil)))) (fun _ _ _ _ _ g => pdts_nil) (fun _ _ _ _ _ g => (pd_add (pd_add (pd_var 2) pd_str) (pd_var 3)))) pda_nil)))
    (psd_one (psd_ret (pd_join pd_str (pda_cons (pd_lst (pda_star (pd_var 1) (pda_cons (pd_join pd_str (pda_cons (pd_lst (pda_cons pd_str (pda_star (pd_fld T.at_Book_kinds (pd_var 0)) pda_nil))) pda_nil)) pda_nil))) pda_nil))))))
theorem b_line_at (T : Txt K mg w a)  : Body P w K mg base "line_at" s_line_at N_line_at 0 (r_line_at a) := by
  intro f cdv A outer s H E g
  unfold r_line_at
  exact (psd_cons (psd_if (pdt_ge (pd_var 1) (pd_len T.n_len (pda_cons (pd_var 0) pda_nil))) (psd_one psd_never) psd_nil)
    (psd_one (psd_ret (pd_split (pd_ix (pd_var 0) (pd_var 1)) (pda_cons pd_str pda_nil)))))
theorem b_word_at (T : Txt K mg w a) (c_line_at : Cal P w K mg base 1 "line_at" 2 (ct_line_at a)) : Body P w K mg base "word_at" s_word_at N_word_at 1 (r_word_at a) := by
  intro f cdv A outer s H E g
  unfold r_word_at
  exact (psd_cons (psd_set 4 g.nd (pd_call c_line_at g (pda_cons (pd_var 0) (pda_cons (pd_var 1) pda_nil))))
    (psd_cons (psd_if (pdt_w (pdw_or (pdt_ne g (pd_len T.n_len (pda_cons (pd_var 4) pda_nil)) pd_int) (pdw_or (pdt_ne g (pd_ix (pd_var 4) pd_int) (pd_var 2)) (pdw_or1 (pdt_notIn g.hu (pd_ix (pd_var 4) pd_int) (pd_var 3)))))) (psd_one psd_never) psd_nil)
    (psd_one (psd_ret (pd_ix (pd_var 4) pd_int)))))
theorem b_words_at (T : Txt K mg w a) (c_line_at : Cal P w K mg base 1 "line_at" 2 (ct_line_at a)) : Body P w K mg base "words_at" s_words_at N_words_at 1 (r_words_at a) := by
  intro f cdv A outer s H E g
  unfold r_words_at
  exact (psd_cons (psd_set 2 g.nd (pd_call c_line_at g (pda_cons (pd_var 0) (pda_cons (pd_var 1) pda_nil))))
    (psd_cons (psd_if (pdt_w (pdw_or (pdt_ne g (pd_ix (pd_var 2) pd_int) pd_str) (pdw_or1 (pdt_ne g (pd_lc (own := ([("word", 3)] : List (Str × Nat))) g (pdi_any (pd_glob (v := .ref a.cWORDS) (by rfl) T.g_WORDS rfl T.i_WORDS)) (blkOk_of (N := N_words_at) (sc := (defScope s_words_at)) (own := ([("word", 3)] : List (Str × Nat))) (by decide +kernel)) (by decide) (fun _ _ _ _ _ => (pdg_nm 3 g.nd)) (fun _ _ _ _ _ g => (pdts_one (pdt_in g.hu (pd_var 3) (pd_slice (pd_var 2) (pdo_some pd_int) pdo_none)))) (fun _ _ _ _ _ g => (pd_var 3))) (pd_slice (pd_var 2) (pdo_some pd_int) pdo_none))))) (psd_one psd_never) psd_nil)
    (psd_one (psd_ret (pd_tupC T.n_tuple (pda_cons (pd_slice (pd_var 2) (pdo_some pd_int) pdo_none) pda_nil))))))
theorem b_read (T : Txt K mg w a) (c_word_at : Cal P w K mg base 2 "word_at" 4 (ct_word_at a)) (c_words_at : Cal P w K mg base 2 "words_at" 2 (ct_words_at a)) (m_Book : Cml P w K mg base 3 "Book" a.kBook 3 (cm_Book a)) : Body P w K mg base "read" s_read N_read 4 (r_read a) := by
  intro f cdv A outer s H E g
  unfold r_read
  exact (psd_cons (psd_par3 1 2 3 g.calm g.nd (pda_cons (pd_split (pd_var 0) (pda_cons pd_str pda_nil)) (pda_cons pd_dnew (pda_cons pd_int pda_nil))))
    (psd_cons (psd_set 4 g.nd (pd_intC T.n_int (pda_cons (pd_call c_word_at g (pda_cons (pd_var 1) (pda_cons pd_int (pda_cons pd_str (pda_cons (pd_glob (v := .ref a.cPRICES) (by rfl) T.g_PRICES rfl T.i_PRICES) pda_nil))))) pda_nil)))
    (psd_cons (psd_for g.po g.calm (pdi_itemsP T.D_PARTS T.l_PARTS (pd_glob (v := .ref a.cPARTS) (by rfl) T.g_PARTS rfl (fun _ _ => Is.vv _))) (pdg_tp g.calm (pgd_cons 5 g.nd (pgd_cons 6 g.nd pgd_nil))) (psd_cons (psd_asgD (pd_call c_word_at g (pda_cons (pd_var 1) (pda_cons (pd_var 3) (pda_cons (pd_var 5) (pda_cons (pd_var 6) pda_nil))))) (pgd_sub g.hu (pd_var 2) (pd_var 5)))
    (psd_one (psd_aug 3 g.nd pd_int ip_add))))
    (psd_cons (psd_set 7 g.nd (pd_call c_words_at g (pda_cons (pd_var 1) (pda_cons (pd_var 3) pda_nil))))
    (psd_cons (psd_if (pdt_gt (pd_len T.n_len (pda_cons (pd_var 1) pda_nil)) (pd_add (pd_var 3) pd_int)) (psd_one psd_never) psd_nil)
    (psd_one (psd_ret (pd_make m_Book g (pda_cons (pd_var 4) (pda_cons (pd_frz (pd_var 2)) (pda_cons (pd_var 7) pda_nil)))))))))))
theorem b_law_mix (T : Txt K mg w a)  : Body P w K mg base "_law_mix" s_law_mix N_law_mix 0 (r_law_mix a) := by
  intro f cdv A outer s H E g
  unfold r_law_mix
  exact (psd_cons (psd_set 2 g.nd (pd_var 1))
    (psd_cons (psd_for g.po g.calm (pdi_any (pd_var 0)) (pdg_nm 3 g.nd) (psd_one (psd_set 2 g.nd (pd_mod (pd_intC T.n_int (pda_cons (pd_add (pd_add (pd_mul (pd_var 2) pd_int) (pd_mod (pd_intC T.n_int (pda_cons (pd_var 3) pda_nil)) pd_int)) pd_int) pda_nil)) pd_int))))
    (psd_one (psd_ret (pd_lstM (pda_cons (pd_var 2) (pda_cons (pd_listC true g T.n_list (pda_cons (pd_var 0) pda_nil)) (pda_cons pd_int pda_nil))))))))
theorem b_law_next (T : Txt K mg w a)  : Body P w K mg base "_law_next" s_law_next N_law_next 0 (r_law_next a) := by
  intro f cdv A outer s H E g
  unfold r_law_next
  exact (psd_cons (psd_set 2 g.nd (pd_ix (pd_add (pd_ix (pd_var 0) pd_int) (pd_lst (pda_cons pd_int pda_nil))) (pd_mod (pd_intC T.n_int (pda_cons (pd_ix (pd_var 0) pd_int) pda_nil)) (pd_max2 g T.n_max (pda_cons pd_int (pda_cons (pd_len T.n_len (pda_cons (pd_ix (pd_var 0) pd_int) pda_nil)) pda_nil))))))
    (psd_cons (psd_if (pdt_ge (pd_var 2) (pd_pow pd_int pd_int)) (psd_cons (psd_asgD (pd_fdiv (pd_var 2) (pd_var 1)) (pgd_sub g.hu (pd_ix (pd_var 0) pd_int) (pd_mod (pd_intC T.n_int (pda_cons (pd_ix (pd_var 0) pd_int) pda_nil)) (pd_len T.n_len (pda_cons (pd_ix (pd_var 0) pd_int) pda_nil)))))
    (psd_one (psd_ret (pd_mod (pd_intC T.n_int (pda_cons (pd_var 2) pda_nil)) (pd_var 1))))) psd_nil)
    (psd_cons (psd_asgD (pd_mod (pd_intC T.n_int (pda_cons (pd_add (pd_add (pd_mul (pd_ix (pd_var 0) pd_int) pd_int) (pd_mul (pd_var 2) pd_int)) pd_int) pda_nil)) pd_int) (pgd_sub g.hu (pd_var 0) pd_int))
    (psd_cons (psd_asgD (pd_add (pd_ix (pd_var 0) pd_int) pd_int) (pgd_sub g.hu (pd_var 0) pd_int))
    (psd_one (psd_ret (pd_mod (pd_intC T.n_int (pda_cons (pd_fdiv (pd_ix (pd_var 0) pd_int) pd_int) pda_nil)) (pd_var 1))))))))
theorem b_law_pick (T : Txt K mg w a) (c__law_next : Cal P w K mg base 1 "_law_next" 2 (ct__law_next a)) : Body P w K mg base "_law_pick" s_law_pick N_law_pick 1 (r_law_pick a) := by
  intro f cdv A outer s H E g
  unfold r_law_pick
  exact (psd_one (psd_ret (pd_ix (pd_var 1) (pd_call c__law_next g (pda_cons (pd_var 0) (pda_cons (pd_len T.n_len (pda_cons (pd_var 1) pda_nil)) pda_nil))))))
theorem b_law_parts (T : Txt K mg w a)  : Body P w K mg base "_law_parts" s_law_parts N_law_parts 0 (r_law_parts a) := by
  intro f cdv A outer s H E g
  unfold r_law_parts
  exact (psd_cons (psd_set 0 g.nd (pd_lstM (pda_cons (pd_lst (pda_cons pd_str (pda_cons pd_str (pda_cons pd_str pda_nil)))) (pda_cons (pd_lst (pda_cons pd_str (pda_cons pd_str (pda_cons pd_str pda_nil)))) (pda_cons (pd_lst (pda_cons pd_str (pda_cons pd_str (pda_cons pd_str pda_nil)))) pda_nil)))))
    (psd_cons (psd_expr (pd_append (pd_var 0) (pda_cons (pd_lst (pda_cons pd_str (pda_cons pd_str (pda_cons pd_str (pda_cons pd_str pda_nil))))) pda_nil)))
    (psd_one (psd_ret (pd_add (pd_var 0) (pd_lst (pda_cons (pd_lst (pda_cons pd_str (pda_cons pd_str (pda_cons pd_str pda_nil)))) (pda_cons (pd_lst (pda_cons pd_str (pda_cons pd_str (pda_cons pd_str pda_nil)))) pda_nil))))))))
theorem b_law_rule (T : Txt K mg w a) (c__law_next : Cal P w K mg base 1 "_law_next" 2 (ct__law_next a)) (c__law_parts : Cal P w K mg base 1 "_law_parts" 0 (ct__law_parts a)) (c__law_pick : Cal P w K mg base 2 "_law_pick" 2 (ct__law_pick a)) : Body P w K mg base "_law_rule" s_law_rule N_law_rule 2 (r_law_rule a) := by
  intro f cdv A outer s H E g
  unfold r_law_rule
  exact (psd_cons (psd_set 1 g.nd pd_dnew)
    (psd_cons (psd_for g.po g.calm (pdi_any (pd_call0 c__law_parts g)) (pdg_nm 2 g.nd) (psd_one (psd_asgD (pd_call c__law_pick g (pda_cons (pd_var 0) (pda_cons (pd_slice (pd_var 2) (pdo_some pd_int) pdo_none) pda_nil))) (pgd_sub g.hu (pd_var 1) (pd_ix (pd_var 2) pd_int)))))
    (psd_cons (psd_if (pdt_eq g (pd_call c__law_next g (pda_cons (pd_var 0) (pda_cons pd_int pda_nil))) pd_int) (psd_one (psd_asgD pd_str (pgd_sub g.hu (pd_var 1) pd_str))) psd_nil)
    (psd_one (psd_ret (pd_frz (pd_var 1)))))))
theorem b_law_words (T : Txt K mg w a) (c__law_next : Cal P w K mg base 1 "_law_next" 2 (ct__law_next a)) (c__law_pick : Cal P w K mg base 2 "_law_pick" 2 (ct__law_pick a)) : Body P w K mg base "_law_words" s_law_words N_law_words 2 (r_law_words a) := by
  intro f cdv A outer s H E g
  unfold r_law_words
  exact (psd_cons (psd_set 2 g.nd (pd_lst (pda_cons pd_str (pda_cons pd_str (pda_cons pd_str (pda_cons pd_str (pda_cons pd_str (pda_cons pd_str pda_nil))))))))
    (psd_cons (psd_set 3 g.nd (pd_lc (own := ([("_law_k", 4)] : List (Str × Nat))) g (pdi_range1 (by rfl) T.n_range (pda_cons (pd_call c__law_next g (pda_cons (pd_var 0) (pda_cons (pd_add (pd_var 1) pd_int) pda_nil))) pda_nil)) (blkOk_of (N := N_law_words) (sc := (defScope s_law_words)) (own := ([("_law_k", 4)] : List (Str × Nat))) (by decide +kernel)) (by decide) (fun _ _ _ _ _ => (pdg_nm 4 g.nd)) (fun _ _ _ _ _ g => pdts_nil) (fun _ _ _ _ _ g => (pd_call c__law_pick g (pda_cons (pd_var 0) (pda_cons (pd_var 2) pda_nil))))))
    (psd_one (psd_ret (pd_tupC T.n_tuple (pda_cons (pd_lc (own := ([("_law_word", 5)] : List (Str × Nat))) g (pdi_any (pd_var 2)) (blkOk_of (N := N_law_words) (sc := (defScope s_law_words)) (own := ([("_law_word", 5)] : List (Str × Nat))) (by decide +kernel)) (by decide) (fun _ _ _ _ _ => (pdg_nm 5 g.nd)) (fun _ _ _ _ _ g => (pdts_one (pdt_in g.hu (pd_var 5) (pd_var 3)))) (fun _ _ _ _ _ g => (pd_var 5))) pda_nil))))))
theorem b_law_draw (T : Txt K mg w a) (c__law_rule : Cal P w K mg base 3 "_law_rule" 1 (ct__law_rule a)) (c__law_words : Cal P w K mg base 3 "_law_words" 2 (ct__law_words a)) : Body P w K mg base "_law_draw" s_law_draw N_law_draw 3 (r_law_draw a) := by
  intro f cdv A outer s H E g
  unfold r_law_draw
  exact (psd_one (psd_ret (pd_lstM (pda_cons pd_int (pda_cons (pd_call c__law_rule g (pda_cons (pd_var 0) pda_nil)) (pda_cons (pd_call c__law_words g (pda_cons (pd_var 0) (pda_cons pd_int pda_nil))) pda_nil))))))
theorem b_law_built (T : Txt K mg w a) (m_Book : Cml P w K mg base 3 "Book" a.kBook 3 (cm_Book a)) : Body P w K mg base "_law_built" s_law_built N_law_built 4 (r_law_built a) := by
  intro f cdv A outer s H E g
  unfold r_law_built
  exact (psd_one (psd_ret (pd_make m_Book g (pda_cons (pd_ix (pd_var 0) pd_int) (pda_cons (pd_ix (pd_var 0) pd_int) (pda_cons (pd_ix (pd_var 0) pd_int) pda_nil))))))
theorem b_law (T : Txt K mg w a) (c__law_built : Cal P w K mg base 5 "_law_built" 1 (ct__law_built a)) (c__law_draw : Cal P w K mg base 4 "_law_draw" 1 (ct__law_draw a)) (c__law_mix : Cal P w K mg base 1 "_law_mix" 2 (ct__law_mix a)) (c__law_next : Cal P w K mg base 1 "_law_next" 2 (ct__law_next a)) (c__law_parts : Cal P w K mg base 1 "_law_parts" 0 (ct__law_parts a)) (c__law_words : Cal P w K mg base 3 "_law_words" 2 (ct__law_words a)) (c_read : Cal P w K mg base 5 "read" 1 (ct_read a)) (c_write : Cal P w K mg base 1 "write" 1 (ct_write a)) (q_Book : Ceq P w K mg base 1 a.kBook (cq_Book a)) : Body P w K mg base "law" s_law N_law 5 (r_law a) := by
  intro f cdv A outer s H E g
  unfold r_law
  exact (psd_cons (psd_set 1 g.nd (pd_call c__law_mix g (pda_cons (pd_var 0) (pda_cons pd_int pda_nil))))
    (psd_cons (psd_for g.po g.calm (pdi_range1 (by rfl) T.n_range (pda_cons pd_int pda_nil)) (pdg_nm 2 g.nd) (psd_cons (psd_set 3 g.nd (pd_call c__law_draw g (pda_cons (pd_var 1) pda_nil)))
    (psd_cons (psd_asgD (pd_tup (pda_cons (pd_add pd_int (pd_call c__law_next g (pda_cons (pd_var 1) (pda_cons pd_int pda_nil)))) (pda_cons (pd_call c__law_words g (pda_cons (pd_var 1) (pda_cons pd_int pda_nil))) pda_nil))) (pgd_tup (n := 2) g.calm (pgds_cons (pgd_sub g.hu (pd_var 3) pd_int) (pgds_cons (pgd_sub g.hu (pd_var 3) pd_int) pgds_nil))))
    (psd_cons (psd_set 4 g.nd (pd_add (pd_lst (pda_cons (pd_add pd_str (pd_strC T.n_str (pda_cons (pd_ix (pd_var 3) pd_int) pda_nil))) pda_nil)) (pd_lc (own := ([("_law_part", 6)] : List (Str × Nat))) g (pdi_any (pd_call0 c__law_parts g)) (blkOk_of (N := N_law) (sc := (defScope s_law)) (own := ([("_law_part", 6)] : List (Str × Nat))) (by decide +kernel)) (by decide) (fun _ _ _ _ _ => (pdg_nm 6 g.nd)) (fun _ _ _ _ _ g => pdts_nil) (fun _ _ _ _ _ g => (pd_add (pd_add (pd_ix (pd_var 6) pd_int) pd_str) (pd_ix (pd_ix (pd_var 3) pd_int) (pd_ix (pd_var 6) pd_int)))))))
    (psd_cons (psd_set 5 g.nd (pd_join pd_str (pda_cons (pd_add (pd_var 4) (pd_lst (pda_cons (pd_join pd_str (pda_cons (pd_add (pd_lst (pda_cons pd_str pda_nil)) (pd_listC false g T.n_list (pda_cons (pd_ix (pd_var 3) pd_int) pda_nil))) pda_nil)) pda_nil))) pda_nil)))
    (psd_one (psd_if (pdt_w (pdw_or (pdt_ne g (pd_call c_write g (pda_cons (pd_call c__law_built g (pda_cons (pd_var 3) pda_nil)) pda_nil)) (pd_var 5)) (pdw_or (pdt_not (pdt_own q_Book g (pd_call c_read g (pda_cons (pd_var 5) pda_nil)) (pd_call c__law_built g (pda_cons (pd_var 3) pda_nil)))) (pdw_or1 (pdt_ne g (pd_call c_write g (pda_cons (pd_call c_read g (pda_cons (pd_var 5) pda_nil)) pda_nil)) (pd_var 5)))))) (psd_one (psd_ret pd_bl)) psd_nil)))))))
    (psd_one (psd_ret pd_bl))))
theorem law_fn {f : Addr} {fd : FuncData} (T : Txt K mg w a) (F : Fun K "law" "law" s_law f fd) : FnOk P w K mg base (L2.CX P w) 6 f fd P_law (spD K 1 (ct_law a)) := by
  have c_is_integer : Cal P w K mg base 1 "is_integer" 3 (ct_is_integer a) := T.df_is_integer.cal sc_is_integer (b_is_integer T ) covs_of
  have c_is_word : Cal P w K mg base 1 "is_word" 2 (ct_is_word a) := T.df_is_word.cal sc_is_word (b_is_word T ) covs_of
  have c_check_rule : Cal P w K mg base 2 "check_rule" 1 (ct_check_rule a) := T.df_check_rule.cal sc_check_rule (b_check_rule T c_is_word) covs_of
  have m_Book : Cml P w K mg base 3 "Book" a.kBook 3 (cm_Book a) := T.dc_Book.cml sc_Book_init (b_Book_init T c_check_rule c_is_integer c_is_word) covs_of
  have q_Book : Ceq P w K mg base 1 a.kBook (cq_Book a) := T.de_Book.ceq sc_Book_eq (b_Book_eq T ) covs_of
  have c_write : Cal P w K mg base 1 "write" 1 (ct_write a) := T.df_write.cal sc_write (b_write T ) covs_of
  have c_line_at : Cal P w K mg base 1 "line_at" 2 (ct_line_at a) := T.df_line_at.cal sc_line_at (b_line_at T ) covs_of
  have c_word_at : Cal P w K mg base 2 "word_at" 4 (ct_word_at a) := T.df_word_at.cal sc_word_at (b_word_at T c_line_at) covs_of
  have c_words_at : Cal P w K mg base 2 "words_at" 2 (ct_words_at a) := T.df_words_at.cal sc_words_at (b_words_at T c_line_at) covs_of
  have c_read : Cal P w K mg base 5 "read" 1 (ct_read a) := T.df_read.cal sc_read (b_read T c_word_at c_words_at m_Book) covs_of
  have c__law_mix : Cal P w K mg base 1 "_law_mix" 2 (ct__law_mix a) := T.df__law_mix.cal sc_law_mix (b_law_mix T ) covs_of
  have c__law_next : Cal P w K mg base 1 "_law_next" 2 (ct__law_next a) := T.df__law_next.cal sc_law_next (b_law_next T ) covs_of
  have c__law_pick : Cal P w K mg base 2 "_law_pick" 2 (ct__law_pick a) := T.df__law_pick.cal sc_law_pick (b_law_pick T c__law_next) covs_of
  have c__law_parts : Cal P w K mg base 1 "_law_parts" 0 (ct__law_parts a) := T.df__law_parts.cal sc_law_parts (b_law_parts T ) covs_of
  have c__law_rule : Cal P w K mg base 3 "_law_rule" 1 (ct__law_rule a) := T.df__law_rule.cal sc_law_rule (b_law_rule T c__law_next c__law_parts c__law_pick) covs_of
  have c__law_words : Cal P w K mg base 3 "_law_words" 2 (ct__law_words a) := T.df__law_words.cal sc_law_words (b_law_words T c__law_next c__law_pick) covs_of
  have c__law_draw : Cal P w K mg base 4 "_law_draw" 1 (ct__law_draw a) := T.df__law_draw.cal sc_law_draw (b_law_draw T c__law_rule c__law_words) covs_of
  have c__law_built : Cal P w K mg base 5 "_law_built" 1 (ct__law_built a) := T.df__law_built.cal sc_law_built (b_law_built T m_Book) covs_of
  exact fn_cal F sc_law (by decide) (b_law T c__law_built c__law_draw c__law_mix c__law_next c__law_parts c__law_words c_read c_write q_Book f) (show Covs N_law P_law (ct_law a) (r_law a) from covs_of)
end
theorem all_mk {l : PySem.W.OpenLaw} {w : World} {K : PySem.W.Frag} {h : Heap} {mg : Str → Option Value} (X : K.In h) (G : h.Ns mainGlobals mg)
    {fa : Addr} (hfa : mg "law" = some (.ref fa))
    {kBook : Addr} (gkBook : PySem.W.nsIn K mainGlobals "Book" = some (some (.ref kBook)))
    {f0 : Addr} {od0 an0 : Option Addr} {sl0 : Array (Option Value)} {oc0 kV0 dc0 pm0 cd0 ct0 : Value}
    (a0 : PySem.W.nsIn K mainGlobals "is_integer" = some (some (.ref f0)))
    (l0 : K.lookup f0 = some ⟨oc0, od0, .func (PySem.W.fnOf "is_integer" "is_integer" (defArgs L14.s_is_integer) (defBody L14.s_is_integer) (defScope L14.s_is_integer) .none kV0 dc0 pm0 an0 cd0 ct0), sl0⟩)
    (c0 : PySem.W.codeIn K cd0 "is_integer" = true)
    (k0 : PySem.W.keepIn K (.ref f0) = true)
    {f1 : Addr} {od1 an1 : Option Addr} {sl1 : Array (Option Value)} {oc1 kV1 dc1 pm1 cd1 ct1 : Value}
    (a1 : PySem.W.nsIn K mainGlobals "is_word" = some (some (.ref f1)))
    (l1 : K.lookup f1 = some ⟨oc1, od1, .func (PySem.W.fnOf "is_word" "is_word" (defArgs L14.s_is_word) (defBody L14.s_is_word) (defScope L14.s_is_word) .none kV1 dc1 pm1 an1 cd1 ct1), sl1⟩)
    (c1 : PySem.W.codeIn K cd1 "is_word" = true)
    (k1 : PySem.W.keepIn K (.ref f1) = true)
    {f2 : Addr} {od2 an2 : Option Addr} {sl2 : Array (Option Value)} {oc2 kV2 dc2 pm2 cd2 ct2 : Value}
    (a2 : PySem.W.nsIn K mainGlobals "check_rule" = some (some (.ref f2)))
    (l2 : K.lookup f2 = some ⟨oc2, od2, .func (PySem.W.fnOf "check_rule" "check_rule" (defArgs L14.s_check_rule) (defBody L14.s_check_rule) (defScope L14.s_check_rule) .none kV2 dc2 pm2 an2 cd2 ct2), sl2⟩)
    (c2 : PySem.W.codeIn K cd2 "check_rule" = true)
    (k2 : PySem.W.keepIn K (.ref f2) = true)
    {f3 : Addr} {od3 an3 : Option Addr} {sl3 : Array (Option Value)} {oc3 kV3 dc3 pm3 cd3 ct3 : Value}
    (a3 : PySem.W.findIn K (.ref kBook) "__init__" = some (some (.ref f3)))
    (i3 : PySem.W.isFn K (.ref f3) = true)
    (l3 : K.lookup f3 = some ⟨oc3, od3, .func (PySem.W.fnOf "__init__" "Book.__init__" (defArgs L14.s_Book_init) (defBody L14.s_Book_init) (defScope L14.s_Book_init) .none kV3 dc3 pm3 an3 cd3 ct3), sl3⟩)
    (c3 : PySem.W.codeIn K cd3 "Book.__init__" = true)
    (k3 : PySem.W.keepIn K (.ref f3) = true)
    {f4 : Addr} {od4 an4 : Option Addr} {sl4 : Array (Option Value)} {oc4 kV4 dc4 pm4 cd4 ct4 : Value}
    (a4 : PySem.W.findIn K (.ref kBook) "__eq__" = some (some (.ref f4)))
    (i4 : PySem.W.isFn K (.ref f4) = true)
    (l4 : K.lookup f4 = some ⟨oc4, od4, .func (PySem.W.fnOf "__eq__" "Book.__eq__" (defArgs L14.s_Book_eq) (defBody L14.s_Book_eq) (defScope L14.s_Book_eq) .none kV4 dc4 pm4 an4 cd4 ct4), sl4⟩)
    (c4 : PySem.W.codeIn K cd4 "Book.__eq__" = true)
    (k4 : PySem.W.keepIn K (.ref f4) = true)
    {f5 : Addr} {od5 an5 : Option Addr} {sl5 : Array (Option Value)} {oc5 kV5 dc5 pm5 cd5 ct5 : Value}
    (a5 : PySem.W.nsIn K mainGlobals "write" = some (some (.ref f5)))
    (l5 : K.lookup f5 = some ⟨oc5, od5, .func (PySem.W.fnOf "write" "write" (defArgs L14.s_write) (defBody L14.s_write) (defScope L14.s_write) .none kV5 dc5 pm5 an5 cd5 ct5), sl5⟩)
    (c5 : PySem.W.codeIn K cd5 "write" = true)
    (k5 : PySem.W.keepIn K (.ref f5) = true)
    {f6 : Addr} {od6 an6 : Option Addr} {sl6 : Array (Option Value)} {oc6 kV6 dc6 pm6 cd6 ct6 : Value}
    (a6 : PySem.W.nsIn K mainGlobals "line_at" = some (some (.ref f6)))
    (l6 : K.lookup f6 = some ⟨oc6, od6, .func (PySem.W.fnOf "line_at" "line_at" (defArgs L14.s_line_at) (defBody L14.s_line_at) (defScope L14.s_line_at) .none kV6 dc6 pm6 an6 cd6 ct6), sl6⟩)
    (c6 : PySem.W.codeIn K cd6 "line_at" = true)
    (k6 : PySem.W.keepIn K (.ref f6) = true)
    {f7 : Addr} {od7 an7 : Option Addr} {sl7 : Array (Option Value)} {oc7 kV7 dc7 pm7 cd7 ct7 : Value}
    (a7 : PySem.W.nsIn K mainGlobals "word_at" = some (some (.ref f7)))
    (l7 : K.lookup f7 = some ⟨oc7, od7, .func (PySem.W.fnOf "word_at" "word_at" (defArgs L14.s_word_at) (defBody L14.s_word_at) (defScope L14.s_word_at) .none kV7 dc7 pm7 an7 cd7 ct7), sl7⟩)
    (c7 : PySem.W.codeIn K cd7 "word_at" = true)
    (k7 : PySem.W.keepIn K (.ref f7) = true)
    {f8 : Addr} {od8 an8 : Option Addr} {sl8 : Array (Option Value)} {oc8 kV8 dc8 pm8 cd8 ct8 : Value}
    (a8 : PySem.W.nsIn K mainGlobals "words_at" = some (some (.ref f8)))
    (l8 : K.lookup f8 = some ⟨oc8, od8, .func (PySem.W.fnOf "words_at" "words_at" (defArgs L14.s_words_at) (defBody L14.s_words_at) (defScope L14.s_words_at) .none kV8 dc8 pm8 an8 cd8 ct8), sl8⟩)
    (c8 : PySem.W.codeIn K cd8 "words_at" = true)
    (k8 : PySem.W.keepIn K (.ref f8) = true)
    {f9 : Addr} {od9 an9 : Option Addr} {sl9 : Array (Option Value)} {oc9 kV9 dc9 pm9 cd9 ct9 : Value}
    (a9 : PySem.W.nsIn K mainGlobals "read" = some (some (.ref f9)))
    (l9 : K.lookup f9 = some ⟨oc9, od9, .func (PySem.W.fnOf "read" "read" (defArgs L14.s_read) (defBody L14.s_read) (defScope L14.s_read) .none kV9 dc9 pm9 an9 cd9 ct9), sl9⟩)
    (c9 : PySem.W.codeIn K cd9 "read" = true)
    (k9 : PySem.W.keepIn K (.ref f9) = true)
    {f10 : Addr} {od10 an10 : Option Addr} {sl10 : Array (Option Value)} {oc10 kV10 dc10 pm10 cd10 ct10 : Value}
    (a10 : PySem.W.nsIn K mainGlobals "_law_mix" = some (some (.ref f10)))
    (l10 : K.lookup f10 = some ⟨oc10, od10, .func (PySem.W.fnOf "_law_mix" "_law_mix" (defArgs L14.s_law_mix) (defBody L14.s_law_mix) (defScope L14.s_law_mix) .none kV10 dc10 pm10 an10 cd10 ct10), sl10⟩)
    (c10 : PySem.W.codeIn K cd10 "_law_mix" = true)
    (k10 : PySem.W.keepIn K (.ref f10) = true)
    {f11 : Addr} {od11 an11 : Option Addr} {sl11 : Array (Option Value)} {oc11 kV11 dc11 pm11 cd11 ct11 : Value}
    (a11 : PySem.W.nsIn K mainGlobals "_law_next" = some (some (.ref f11)))
    (l11 : K.lookup f11 = some ⟨oc11, od11, .func (PySem.W.fnOf "_law_next" "_law_next" (defArgs L14.s_law_next) (defBody L14.s_law_next) (defScope L14.s_law_next) .none kV11 dc11 pm11 an11 cd11 ct11), sl11⟩)
    (c11 : PySem.W.codeIn K cd11 "_law_next" = true)
    (k11 : PySem.W.keepIn K (.ref f11) = true)
    {f12 : Addr} {od12 an12 : Option Addr} {sl12 : Array (Option Value)} {oc12 kV12 dc12 pm12 cd12 ct12 : Value}
    (a12 : PySem.W.nsIn K mainGlobals "_law_pick" = some (some (.ref f12)))
    (l12 : K.lookup f12 = some ⟨oc12, od12, .func (PySem.W.fnOf "_law_pick" "_law_pick" (defArgs L14.s_law_pick) (defBody L14.s_law_pick) (defScope L14.s_law_pick) .none kV12 dc12 pm12 an12 cd12 ct12), sl12⟩)
    (c12 : PySem.W.codeIn K cd12 "_law_pick" = true)
    (k12 : PySem.W.keepIn K (.ref f12) = true)
    {f13 : Addr} {od13 an13 : Option Addr} {sl13 : Array (Option Value)} {oc13 kV13 dc13 pm13 cd13 ct13 : Value}
    (a13 : PySem.W.nsIn K mainGlobals "_law_parts" = some (some (.ref f13)))
    (l13 : K.lookup f13 = some ⟨oc13, od13, .func (PySem.W.fnOf "_law_parts" "_law_parts" (defArgs L14.s_law_parts) (defBody L14.s_law_parts) (defScope L14.s_law_parts) .none kV13 dc13 pm13 an13 cd13 ct13), sl13⟩)
    (c13 : PySem.W.codeIn K cd13 "_law_parts" = true)
    (k13 : PySem.W.keepIn K (.ref f13) = true)
    {f14 : Addr} {od14 an14 : Option Addr} {sl14 : Array (Option Value)} {oc14 kV14 dc14 pm14 cd14 ct14 : Value}
    (a14 : PySem.W.nsIn K mainGlobals "_law_rule" = some (some (.ref f14)))
    (l14 : K.lookup f14 = some ⟨oc14, od14, .func (PySem.W.fnOf "_law_rule" "_law_rule" (defArgs L14.s_law_rule) (defBody L14.s_law_rule) (defScope L14.s_law_rule) .none kV14 dc14 pm14 an14 cd14 ct14), sl14⟩)
    (c14 : PySem.W.codeIn K cd14 "_law_rule" = true)
    (k14 : PySem.W.keepIn K (.ref f14) = true)
    {f15 : Addr} {od15 an15 : Option Addr} {sl15 : Array (Option Value)} {oc15 kV15 dc15 pm15 cd15 ct15 : Value}
    (a15 : PySem.W.nsIn K mainGlobals "_law_words" = some (some (.ref f15)))
    (l15 : K.lookup f15 = some ⟨oc15, od15, .func (PySem.W.fnOf "_law_words" "_law_words" (defArgs L14.s_law_words) (defBody L14.s_law_words) (defScope L14.s_law_words) .none kV15 dc15 pm15 an15 cd15 ct15), sl15⟩)
    (c15 : PySem.W.codeIn K cd15 "_law_words" = true)
    (k15 : PySem.W.keepIn K (.ref f15) = true)
    {f16 : Addr} {od16 an16 : Option Addr} {sl16 : Array (Option Value)} {oc16 kV16 dc16 pm16 cd16 ct16 : Value}
    (a16 : PySem.W.nsIn K mainGlobals "_law_draw" = some (some (.ref f16)))
    (l16 : K.lookup f16 = some ⟨oc16, od16, .func (PySem.W.fnOf "_law_draw" "_law_draw" (defArgs L14.s_law_draw) (defBody L14.s_law_draw) (defScope L14.s_law_draw) .none kV16 dc16 pm16 an16 cd16 ct16), sl16⟩)
    (c16 : PySem.W.codeIn K cd16 "_law_draw" = true)
    (k16 : PySem.W.keepIn K (.ref f16) = true)
    {f17 : Addr} {od17 an17 : Option Addr} {sl17 : Array (Option Value)} {oc17 kV17 dc17 pm17 cd17 ct17 : Value}
    (a17 : PySem.W.nsIn K mainGlobals "_law_built" = some (some (.ref f17)))
    (l17 : K.lookup f17 = some ⟨oc17, od17, .func (PySem.W.fnOf "_law_built" "_law_built" (defArgs L14.s_law_built) (defBody L14.s_law_built) (defScope L14.s_law_built) .none kV17 dc17 pm17 an17 cd17 ct17), sl17⟩)
    (c17 : PySem.W.codeIn K cd17 "_law_built" = true)
    (k17 : PySem.W.keepIn K (.ref f17) = true)
    {f18 : Addr} {od18 an18 : Option Addr} {sl18 : Array (Option Value)} {oc18 kV18 dc18 pm18 cd18 ct18 : Value}
    (a18 : PySem.W.nsIn K mainGlobals "law" = some (some (.ref f18)))
    (l18 : K.lookup f18 = some ⟨oc18, od18, .func (PySem.W.fnOf "law" "law" (defArgs L14.s_law) (defBody L14.s_law) (defScope L14.s_law) .none kV18 dc18 pm18 an18 cd18 ct18), sl18⟩)
    (c18 : PySem.W.codeIn K cd18 "law" = true)
    (k18 : PySem.W.keepIn K (.ref f18) = true)
    (pgBook : PySem.W.plainGet K kBook Str.empty = true)
    (hdBook : PySem.W.hasDictIn K kBook = true)
    (poBook : PySem.W.plainOver K kBook = true)
    (saBook : PySem.W.findIn K (.ref kBook) "__setattr__" = some (some (.builtin "object.__setattr__")))
    (mkBook : PySem.W.makesIn K kBook = true)
    (kcBook : PySem.W.keepIn K (.ref kBook) = true)
    {cPARTS cPARTS_0 cPARTS_1 cPARTS_2 cPARTS_3 cPARTS_4 cPARTS_5 : Addr} {esPARTS : Array DictEntry} {nPARTS : Nat}
    (g_PARTS : PySem.W.nsIn K mainGlobals "PARTS" = some (some (.ref cPARTS)))
    (ldPARTS : K.lookup cPARTS = some ⟨.type "dict", none, .dict esPARTS nPARTS, #[]⟩)
    (kkPARTS : PySem.W.KeysLit w.params esPARTS.toList)
    (loPARTS : (cPARTS == sysModules) = false)
    (enPARTS : Paired EntIs esPARTS.toList ([(.inr "counts", .ref cPARTS_0), (.inr "evening", .ref cPARTS_1), (.inr "lost", .ref cPARTS_2), (.inr "remembers", .ref cPARTS_3), (.inr "search", .ref cPARTS_4), (.inr "tells", .ref cPARTS_5)] : List (Key × V)))
    {ddPARTS_0 : Option Addr} {itsPARTS_0 : Array Value} {mPARTS_0 : Nat} {slPARTS_0 : Array (Option Value)}
    (ltPARTS_0 : K.lookup cPARTS_0 = some ⟨.type "tuple", ddPARTS_0, .seq itsPARTS_0 mPARTS_0, slPARTS_0⟩)
    (szPARTS_0 : itsPARTS_0.size ≤ sizeLine)
    (vlPARTS_0 : Vals [.str "comes", .str "fits"] itsPARTS_0.toList)
    {ddPARTS_1 : Option Addr} {itsPARTS_1 : Array Value} {mPARTS_1 : Nat} {slPARTS_1 : Array (Option Value)}
    (ltPARTS_1 : K.lookup cPARTS_1 = some ⟨.type "tuple", ddPARTS_1, .seq itsPARTS_1 mPARTS_1, slPARTS_1⟩)
    (szPARTS_1 : itsPARTS_1.size ≤ sizeLine)
    (vlPARTS_1 : Vals [.str "looks", .str "sends"] itsPARTS_1.toList)
    {ddPARTS_2 : Option Addr} {itsPARTS_2 : Array Value} {mPARTS_2 : Nat} {slPARTS_2 : Array (Option Value)}
    (ltPARTS_2 : K.lookup cPARTS_2 = some ⟨.type "tuple", ddPARTS_2, .seq itsPARTS_2 mPARTS_2, slPARTS_2⟩)
    (szPARTS_2 : itsPARTS_2.size ≤ sizeLine)
    (vlPARTS_2 : Vals [.str "again", .str "noted"] itsPARTS_2.toList)
    {ddPARTS_3 : Option Addr} {itsPARTS_3 : Array Value} {mPARTS_3 : Nat} {slPARTS_3 : Array (Option Value)}
    (ltPARTS_3 : K.lookup cPARTS_3 = some ⟨.type "tuple", ddPARTS_3, .seq itsPARTS_3 mPARTS_3, slPARTS_3⟩)
    (szPARTS_3 : itsPARTS_3.size ≤ sizeLine)
    (vlPARTS_3 : Vals [.str "number", .str "price", .str "thing"] itsPARTS_3.toList)
    {ddPARTS_4 : Option Addr} {itsPARTS_4 : Array Value} {mPARTS_4 : Nat} {slPARTS_4 : Array (Option Value)}
    (ltPARTS_4 : K.lookup cPARTS_4 = some ⟨.type "tuple", ddPARTS_4, .seq itsPARTS_4 mPARTS_4, slPARTS_4⟩)
    (szPARTS_4 : itsPARTS_4.size ≤ sizeLine)
    (vlPARTS_4 : Vals [.str "forgets", .str "keeps"] itsPARTS_4.toList)
    {ddPARTS_5 : Option Addr} {itsPARTS_5 : Array Value} {mPARTS_5 : Nat} {slPARTS_5 : Array (Option Value)}
    (ltPARTS_5 : K.lookup cPARTS_5 = some ⟨.type "tuple", ddPARTS_5, .seq itsPARTS_5 mPARTS_5, slPARTS_5⟩)
    (szPARTS_5 : itsPARTS_5.size ≤ sizeLine)
    (vlPARTS_5 : Vals [.str "evening", .str "now"] itsPARTS_5.toList)
    {cPRICES : Addr} {ddPRICES : Option Addr} {itsPRICES : Array Value} {mPRICES : Nat} {slPRICES : Array (Option Value)}
    (ltPRICES : K.lookup cPRICES = some ⟨.type "tuple", ddPRICES, .seq itsPRICES mPRICES, slPRICES⟩)
    (szPRICES : itsPRICES.size ≤ sizeLine)
    (vlPRICES : Vals [.str "2", .str "3"] itsPRICES.toList)
    (g_PRICES : PySem.W.nsIn K mainGlobals "PRICES" = some (some (.ref cPRICES)))
    {cWORDS : Addr} {ddWORDS : Option Addr} {itsWORDS : Array Value} {mWORDS : Nat} {slWORDS : Array (Option Value)}
    (ltWORDS : K.lookup cWORDS = some ⟨.type "tuple", ddWORDS, .seq itsWORDS mWORDS, slWORDS⟩)
    (szWORDS : itsWORDS.size ≤ sizeLine)
    (vlWORDS : Vals [.str "anew", .str "lose", .str "number", .str "pause", .str "price", .str "search"] itsWORDS.toList)
    (g_WORDS : PySem.W.nsIn K mainGlobals "WORDS" = some (some (.ref cWORDS)))
    (n_all : PySem.W.nsIn K mainGlobals "all" = some none)
    (n_bool : PySem.W.nsIn K mainGlobals "bool" = some none)
    (n_dict : PySem.W.nsIn K mainGlobals "dict" = some none)
    (n_int : PySem.W.nsIn K mainGlobals "int" = some none)
    (n_isinstance : PySem.W.nsIn K mainGlobals "isinstance" = some none)
    (n_len : PySem.W.nsIn K mainGlobals "len" = some none)
    (n_list : PySem.W.nsIn K mainGlobals "list" = some none)
    (n_max : PySem.W.nsIn K mainGlobals "max" = some none)
    (n_range : PySem.W.nsIn K mainGlobals "range" = some none)
    (n_str : PySem.W.nsIn K mainGlobals "str" = some none)
    (n_tuple : PySem.W.nsIn K mainGlobals "tuple" = some none)
    (at_Book_highest : PySem.W.findIn K (.ref kBook) "highest" = some none)
    (at_Book_kinds : PySem.W.findIn K (.ref kBook) "kinds" = some none)
    (at_Book_terms : PySem.W.findIn K (.ref kBook) "terms" = some none)
    (haBook : PySem.W.findIn K (.ref kBook) "__class__" = some (some (.builtin "object.__class__")))
    (hnBook : PySem.W.specialIn K (.builtin "object.__class__") "__get__" = some (some (.builtin "getset_descriptor.__get__")))
    (htBook : PySem.W.takesIn K (.builtin "object.__class__") = some true)
    (hmBook : PySem.W.mroIn K kBook (.type "object") = some true) :
    ∃ (a : Ad) (fd : FuncData), (∀ (s : Shared) (v : Value), BindsTo s fd ⟨[v], []⟩ [("_law_script", v)]) ∧ ∀ base : Heap, K.In base → base.Ns mainGlobals mg → FnOk l.prog w K mg base (L2.CX l.prog w) 6 fa fd ["_law_script"] (spD K 1 (ct_law a)) := by
  have e := hfa.symm.trans (PySem.W.mg_of X G a18)
  cases e
  have T : Txt K mg w ⟨kBook, cPARTS, cPARTS_0, cPARTS_1, cPARTS_2, cPARTS_3, cPARTS_4, cPARTS_5, cPRICES, cWORDS⟩ := {
    g_Book := PySem.W.mg_of X G gkBook,
    g_PARTS := PySem.W.mg_of X G g_PARTS,
    D_PARTS := ⟨⟨esPARTS, nPARTS, ldPARTS, kkPARTS, enPARTS⟩, loPARTS, (by show List.Nodup ([.inr "counts", .inr "evening", .inr "lost", .inr "remembers", .inr "search", .inr "tells"] : List Key); decide +kernel), (by show 6 ≤ sizeLine; decide)⟩,
    l_PARTS := fun _ _ => .cons (.tup (.inr ⟨_, itsPARTS_0, mPARTS_0, ltPARTS_0, rfl, rfl, szPARTS_0, vlPARTS_0⟩) (.cons (.str _) (.cons (.str _) (.nil)))) (.cons (.tup (.inr ⟨_, itsPARTS_1, mPARTS_1, ltPARTS_1, rfl, rfl, szPARTS_1, vlPARTS_1⟩) (.cons (.str _) (.cons (.str _) (.nil)))) (.cons (.tup (.inr ⟨_, itsPARTS_2, mPARTS_2, ltPARTS_2, rfl, rfl, szPARTS_2, vlPARTS_2⟩) (.cons (.str _) (.cons (.str _) (.nil)))) (.cons (.tup (.inr ⟨_, itsPARTS_3, mPARTS_3, ltPARTS_3, rfl, rfl, szPARTS_3, vlPARTS_3⟩) (.cons (.str _) (.cons (.str _) (.cons (.str _) (.nil))))) (.cons (.tup (.inr ⟨_, itsPARTS_4, mPARTS_4, ltPARTS_4, rfl, rfl, szPARTS_4, vlPARTS_4⟩) (.cons (.str _) (.cons (.str _) (.nil)))) (.cons (.tup (.inr ⟨_, itsPARTS_5, mPARTS_5, ltPARTS_5, rfl, rfl, szPARTS_5, vlPARTS_5⟩) (.cons (.str _) (.cons (.str _) (.nil)))) (.nil)))))),
    g_PRICES := PySem.W.mg_of X G g_PRICES,
    i_PRICES := fun _ _ => .tup (.inr ⟨_, itsPRICES, mPRICES, ltPRICES, rfl, rfl, szPRICES, vlPRICES⟩) (.cons (.str _) (.cons (.str _) (.nil))),
    g_WORDS := PySem.W.mg_of X G g_WORDS,
    i_WORDS := fun _ _ => .tup (.inr ⟨_, itsWORDS, mWORDS, ltWORDS, rfl, rfl, szWORDS, vlWORDS⟩) (.cons (.str _) (.cons (.str _) (.cons (.str _) (.cons (.str _) (.cons (.str _) (.cons (.str _) (.nil))))))),
    n_all := PySem.W.mg_none_of X G n_all,
    n_bool := PySem.W.mg_none_of X G n_bool,
    n_dict := PySem.W.mg_none_of X G n_dict,
    n_int := PySem.W.mg_none_of X G n_int,
    n_isinstance := PySem.W.mg_none_of X G n_isinstance,
    n_len := PySem.W.mg_none_of X G n_len,
    n_list := PySem.W.mg_none_of X G n_list,
    n_max := PySem.W.mg_none_of X G n_max,
    n_range := PySem.W.mg_none_of X G n_range,
    n_str := PySem.W.mg_none_of X G n_str,
    n_tuple := PySem.W.mg_none_of X G n_tuple,
    at_Book_highest := ⟨⟨pgBook, hdBook, poBook, saBook⟩, at_Book_highest⟩,
    at_Book_kinds := ⟨⟨pgBook, hdBook, poBook, saBook⟩, at_Book_kinds⟩,
    at_Book_terms := ⟨⟨pgBook, hdBook, poBook, saBook⟩, at_Book_terms⟩,
    is_Book := isiQ_K ⟨⟨pgBook, hdBook, poBook, saBook⟩, haBook, hnBook, htBook, hmBook⟩,
    df_is_integer := ⟨f0, _, fun_mk (st := s_is_integer) l0 c0 k0, (fun_mk (st := s_is_integer) l0 c0 k0).binds (ps := P_is_integer) fun _ _ _ _ _ _ us hl => match us, hl with | [_, _, _], _ => rfl, PySem.W.mg_of X G a0, k0⟩,
    df_is_word := ⟨f1, _, fun_mk (st := s_is_word) l1 c1 k1, (fun_mk (st := s_is_word) l1 c1 k1).binds (ps := P_is_word) fun _ _ _ _ _ _ us hl => match us, hl with | [_, _], _ => rfl, PySem.W.mg_of X G a1, k1⟩,
    df_check_rule := ⟨f2, _, fun_mk (st := s_check_rule) l2 c2 k2, (fun_mk (st := s_check_rule) l2 c2 k2).binds (ps := P_check_rule) fun _ _ _ _ _ _ us hl => match us, hl with | [_], _ => rfl, PySem.W.mg_of X G a2, k2⟩,
    dc_Book := ⟨f3, _, fun_mk (st := s_Book_init) l3 c3 k3, (fun_mk (st := s_Book_init) l3 c3 k3).binds (ps := P_Book_init) fun _ _ _ _ _ _ us hl => match us, hl with | [_, _, _, _], _ => rfl, PySem.W.mg_of X G gkBook, ⟨mkBook, a3, i3, kcBook⟩⟩,
    de_Book := ⟨f4, _, fun_mk (st := s_Book_eq) l4 c4 k4, (fun_mk (st := s_Book_eq) l4 c4 k4).binds (ps := P_Book_eq) fun _ _ _ _ _ _ us hl => match us, hl with | [_, _], _ => rfl, a4, i4⟩,
    df_write := ⟨f5, _, fun_mk (st := s_write) l5 c5 k5, (fun_mk (st := s_write) l5 c5 k5).binds (ps := P_write) fun _ _ _ _ _ _ us hl => match us, hl with | [_], _ => rfl, PySem.W.mg_of X G a5, k5⟩,
    df_line_at := ⟨f6, _, fun_mk (st := s_line_at) l6 c6 k6, (fun_mk (st := s_line_at) l6 c6 k6).binds (ps := P_line_at) fun _ _ _ _ _ _ us hl => match us, hl with | [_, _], _ => rfl, PySem.W.mg_of X G a6, k6⟩,
    df_word_at := ⟨f7, _, fun_mk (st := s_word_at) l7 c7 k7, (fun_mk (st := s_word_at) l7 c7 k7).binds (ps := P_word_at) fun _ _ _ _ _ _ us hl => match us, hl with | [_, _, _, _], _ => rfl, PySem.W.mg_of X G a7, k7⟩,
    df_words_at := ⟨f8, _, fun_mk (st := s_words_at) l8 c8 k8, (fun_mk (st := s_words_at) l8 c8 k8).binds (ps := P_words_at) fun _ _ _ _ _ _ us hl => match us, hl with | [_, _], _ => rfl, PySem.W.mg_of X G a8, k8⟩,
    df_read := ⟨f9, _, fun_mk (st := s_read) l9 c9 k9, (fun_mk (st := s_read) l9 c9 k9).binds (ps := P_read) fun _ _ _ _ _ _ us hl => match us, hl with | [_], _ => rfl, PySem.W.mg_of X G a9, k9⟩,
    df__law_mix := ⟨f10, _, fun_mk (st := s_law_mix) l10 c10 k10, (fun_mk (st := s_law_mix) l10 c10 k10).binds (ps := P_law_mix) fun _ _ _ _ _ _ us hl => match us, hl with | [_, _], _ => rfl, PySem.W.mg_of X G a10, k10⟩,
    df__law_next := ⟨f11, _, fun_mk (st := s_law_next) l11 c11 k11, (fun_mk (st := s_law_next) l11 c11 k11).binds (ps := P_law_next) fun _ _ _ _ _ _ us hl => match us, hl with | [_, _], _ => rfl, PySem.W.mg_of X G a11, k11⟩,
    df__law_pick := ⟨f12, _, fun_mk (st := s_law_pick) l12 c12 k12, (fun_mk (st := s_law_pick) l12 c12 k12).binds (ps := P_law_pick) fun _ _ _ _ _ _ us hl => match us, hl with | [_, _], _ => rfl, PySem.W.mg_of X G a12, k12⟩,
    df__law_parts := ⟨f13, _, fun_mk (st := s_law_parts) l13 c13 k13, (fun_mk (st := s_law_parts) l13 c13 k13).binds (ps := P_law_parts) fun _ _ _ _ _ _ us hl => match us, hl with | [], _ => rfl, PySem.W.mg_of X G a13, k13⟩,
    df__law_rule := ⟨f14, _, fun_mk (st := s_law_rule) l14 c14 k14, (fun_mk (st := s_law_rule) l14 c14 k14).binds (ps := P_law_rule) fun _ _ _ _ _ _ us hl => match us, hl with | [_], _ => rfl, PySem.W.mg_of X G a14, k14⟩,
    df__law_words := ⟨f15, _, fun_mk (st := s_law_words) l15 c15 k15, (fun_mk (st := s_law_words) l15 c15 k15).binds (ps := P_law_words) fun _ _ _ _ _ _ us hl => match us, hl with | [_, _], _ => rfl, PySem.W.mg_of X G a15, k15⟩,
    df__law_draw := ⟨f16, _, fun_mk (st := s_law_draw) l16 c16 k16, (fun_mk (st := s_law_draw) l16 c16 k16).binds (ps := P_law_draw) fun _ _ _ _ _ _ us hl => match us, hl with | [_], _ => rfl, PySem.W.mg_of X G a16, k16⟩,
    df__law_built := ⟨f17, _, fun_mk (st := s_law_built) l17 c17 k17, (fun_mk (st := s_law_built) l17 c17 k17).binds (ps := P_law_built) fun _ _ _ _ _ _ us hl => match us, hl with | [_], _ => rfl, PySem.W.mg_of X G a17, k17⟩ }
  exact ⟨⟨kBook, cPARTS, cPARTS_0, cPARTS_1, cPARTS_2, cPARTS_3, cPARTS_4, cPARTS_5, cPRICES, cWORDS⟩, PySem.W.fnOf "law" "law" (defArgs s_law) (defBody s_law) (defScope s_law) .none kV18 dc18 pm18 an18 cd18 ct18, fun s v => .of_eq rfl, fun base _ _ => law_fn T (fun_mk (st := s_law) l18 c18 k18)⟩
end L14

namespace L14
open PySem L2 DL
/-- the draw's handle at h, its cells at c, n of them -/
structure LH (μ : List Ob) (h c n : Nat) : Prop where
  ne : h ≠ c
  ex : ∃ (s i : Int) (cs : List Int), μ[h]? = some (.lst [.int s, .loc c, .int i]) ∧ μ[c]? = some (.lst (cs.map D.int)) ∧ cs.length = n ∧ n ≤ 63
theorem p18 : (10 : Int) ^ (18 : Nat) = 1000000000000000000 := by decide +kernel
theorem next_ok (a : Ad) {μ : List Ob} {h c n : Nat} {cap : Int} (L : LH μ h c n) (h0 : 0 < cap) (h1 : cap < 1073741824) : ∃ v μ', ct__law_next a [.loc h, .int cap] μ = .ok (.int v) μ' ∧ 0 ≤ v ∧ v < cap ∧ LH μ' h c n ∧ (∀ k, k ≠ h → k ≠ c → μ'[k]? = μ[k]?) ∧ μ'.length = μ.length := by
  obtain ⟨s, i, cs, e1, e2, e3, e4⟩ := L.ex
  have hl : cs.length ≤ 16777215 := by omega
  have l1 := lt_of e1
  have l2 := lt_of e2
  have hm : ∃ m : Int, (if (1 : Int) < (cs.length : Int) then (cs.length : Int) else 1) = m ∧ 0 < m ∧ m ≤ cs.length + 1 ∧ (0 < cs.length → m = cs.length) := ⟨_, rfl, by split <;> omega, by split <;> omega, fun h => by split <;> omega⟩
  obtain ⟨m, hm, m0, m1, m2⟩ := hm
  have j0 := Int.emod_nonneg i (Int.ne_of_gt m0)
  have j1 := Int.emod_lt_of_pos i m0
  have key : ∃ cell : Int, atI (List.map D.int cs ++ [D.int 0]) (i % m) = some (.int cell) ∧ (1000000000000000000 ≤ cell → 0 < cs.length) := by
    obtain ⟨x, h1, h2⟩ := atI_in (xs := List.map D.int cs ++ [D.int 0]) (i := i % m) j0 (by simp; omega)
    by_cases hc : (i % m).toNat < cs.length
    · rw [List.getElem?_append_left (by simpa using hc), List.getElem?_map, List.getElem?_eq_getElem hc] at h2
      cases h2
      exact ⟨_, h1, fun _ => by omega⟩
    · rw [List.getElem?_append_right (by simp; omega)] at h2
      have e : (i % m).toNat - (List.map D.int cs).length = 0 := by simp; omega
      rw [e] at h2
      cases h2
      exact ⟨0, h1, fun h => by omega⟩
  obtain ⟨cell, hcell, hbig⟩ := key
  by_cases hb : (1000000000000000000 : Int) ≤ cell
  · have hp := hbig hb
    have hm2 := m2 hp
    have hix : ixN cs.length (i % (cs.length : Int)) = some (i % (cs.length : Int)).toNat := ixN_in (by rw [← hm2]; exact j0) (by rw [← hm2]; exact j1)
    have hpi : (0 : Int) < (cs.length : Int) := by omega
    refine ⟨cell % cap, μ.set c (.lst ((cs.map D.int).set (i % (cs.length : Int)).toNat (.int (cell / cap)))), ?_, Int.emod_nonneg _ (by omega), Int.emod_lt_of_pos _ h0, ⟨L.ne, s, i, cs.set (i % (cs.length : Int)).toNat (cell / cap), ?_, ?_, by simpa using e3, e4⟩, ?_, by simp⟩
    · unfold ct__law_next ctOf r_law_next
      simp [e1, e2, hl, hm, m0, hcell, hb, hp, h0, h1, storeD, hix]
    · rw [at_set l2, if_neg (Ne.symm L.ne)]
      exact e1
    · rw [at_set l2, if_pos rfl, List.map_set]
    · intro k k1 k2
      rw [at_set l2, if_neg (Ne.symm k2)]
  · have as1 : ∀ (o : Ob) (k : Nat), (μ.set h o)[k]? = if h = k then some o else μ[k]? := fun o k => at_set l1
    have ne := L.ne
    refine ⟨(s * 48271 + cell * 69621 + 11) % 2147483647 / 7 % cap, μ.set h (.lst [.int ((s * 48271 + cell * 69621 + 11) % 2147483647), .loc c, .int (i + 1)]), ?_, Int.emod_nonneg _ (by omega), Int.emod_lt_of_pos _ h0, ⟨L.ne, (s * 48271 + cell * 69621 + 11) % 2147483647, i + 1, cs, ?_, ?_, e3, e4⟩, ?_, by simp⟩
    · have i0 : ixN 3 0 = some 0 := rfl
      have i2 : ixN 3 2 = some 2 := rfl
      unfold ct__law_next ctOf r_law_next
      simp [e1, e2, hl, hm, m0, hcell, hb, h0, h1, storeD, as1, i0, i2]
    · rw [at_set l1, if_pos rfl]
    · rw [at_set l1, if_neg L.ne]
      exact e2
    · intro k k1 k2
      rw [at_set l1, if_neg (Ne.symm k1)]

end L14

namespace L14
open PySem L2 DL
/-- what a drawing def may do to the store -/
structure Fr (μ μ' : List Ob) (h c : Nat) : Prop where
  le : μ.length ≤ μ'.length
  at_ : ∀ k, k ≠ h → k ≠ c → k < μ.length → μ'[k]? = μ[k]?
theorem Fr.refl {μ : List Ob} {h c : Nat} : Fr μ μ h c := ⟨Nat.le_refl _, fun _ _ _ _ => rfl⟩
theorem Fr.trans {μ μ1 μ2 : List Ob} {h c : Nat} (a : Fr μ μ1 h c) (b : Fr μ1 μ2 h c) : Fr μ μ2 h c := ⟨Nat.le_trans a.le b.le, fun k k1 k2 k3 => (b.at_ k k1 k2 (Nat.lt_of_lt_of_le k3 a.le)).trans (a.at_ k k1 k2 k3)⟩
theorem Fr.get {μ μ' : List Ob} {h c k : Nat} {o : Ob} (a : Fr μ μ' h c) (k1 : k ≠ h) (k2 : k ≠ c) (e : μ[k]? = some o) : μ'[k]? = some o := (a.at_ k k1 k2 (lt_of e)).trans e
theorem LH.app {μ : List Ob} {h c n : Nat} (L : LH μ h c n) (j : List Ob) : LH (μ ++ j) h c n := by
  obtain ⟨s, i, cs, e1, e2, e3, e4⟩ := L.ex
  exact ⟨L.ne, s, i, cs, by rw [List.getElem?_append_left (lt_of e1)]; exact e1, by rw [List.getElem?_append_left (lt_of e2)]; exact e2, e3, e4⟩
theorem Fr.app {μ : List Ob} {h c : Nat} (j : List Ob) : Fr μ (μ ++ j) h c := ⟨by simp, fun k _ _ hk => List.getElem?_append_left hk⟩
theorem draw_next (a : Ad) {μ : List Ob} {h c n : Nat} {cap : Int} (L : LH μ h c n) (h0 : 0 < cap) (h1 : cap < 1073741824) : ∃ v μ', ct__law_next a [.loc h, .int cap] μ = .ok (.int v) μ' ∧ 0 ≤ v ∧ v < cap ∧ LH μ' h c n ∧ Fr μ μ' h c ∧ μ'.length = μ.length := by
  obtain ⟨v, μ', e, v0, v1, L', fr, hl⟩ := next_ok a L h0 h1
  exact ⟨v, μ', e, v0, v1, L', ⟨by omega, fun k k1 k2 _ => fr k k1 k2⟩, hl⟩
theorem pick_ok (a : Ad) {μ : List Ob} {h c n : Nat} {xs : List D} (L : LH μ h c n) (h0 : 0 < xs.length) (h1 : xs.length < 1073741824) : ∃ x μ', ct__law_pick a [.loc h, .lst xs] μ = .ok x μ' ∧ x ∈ xs ∧ LH μ' h c n ∧ Fr μ μ' h c ∧ μ'.length = μ.length := by
  obtain ⟨v, μ', e, v0, v1, L', fr, hl⟩ := draw_next a (cap := (xs.length : Int)) L (by omega) (by omega)
  obtain ⟨x, hx, hx2⟩ := atI_in (xs := xs) v0 v1
  refine ⟨x, μ', ?_, List.mem_of_getElem? hx2, L', fr, hl⟩
  unfold ct__law_pick ctOf r_law_pick
  simp [e, hx]
/-- the handle, made -/
theorem mix_fold (a : Ad) (ns : List Int) (x : D) (z : Int) : ∀ (st : Int) (o : Option D) (μ : List Ob), ∃ st' o', forL (.nm 3) (rSet 2 (rBin modD (rCB intD (rCons (rBin addD (rBin addD (rBin mulD (rVar 2) (rC (.int 48271))) (rBin modD (rCB intD (rCons (rVar 3) rNil)) (rC (.int 2147483629)))) (rC (.int 1))) rNil)) (rC (.int 2147483647)))) (ns.map D.int) [some x, some (.int z), some (.int st), o] μ = .nx [some x, some (.int z), some (.int st'), o'] μ := by
  induction ns with
  | nil => intro st o μ; exact ⟨st, o, rfl⟩
  | cons n ns ih =>
    intro st o μ
    obtain ⟨st', o', e⟩ := ih ((st * 48271 + n % 2147483629 + 1) % 2147483647) (some (.int n)) μ
    refine ⟨st', o', ?_⟩
    rw [List.map_cons, forL]
    simp [Tg.set]
    exact e
theorem mix_ok (a : Ad) (ns : List Int) (z : Int) : ∃ st : Int, ct__law_mix a [.frl (ns.map D.int), .int z] [] = .ok (.loc 1) [.lst (ns.map D.int), .lst [.int st, .loc 0, .int 0]] := by
  obtain ⟨st, o, e⟩ := mix_fold a ns (.frl (ns.map D.int)) z z none []
  refine ⟨st, ?_⟩
  unfold ct__law_mix ctOf r_law_mix
  simp only [s_rSeq, s_rSet, s_rVar, s_rFor, s_rItems]
  simp only [List.map_cons, List.map_nil, List.replicate, List.cons_append, List.nil_append]
  simp [itemsD, e]
theorem parts_ok (a : Ad) (μ : List Ob) : ∃ j, noX (ct__law_parts a [] μ) = .ok (.lst [.lst [.str "counts", .str "comes", .str "fits"], .lst [.str "evening", .str "looks", .str "sends"], .lst [.str "lost", .str "again", .str "noted"], .lst [.str "remembers", .str "number", .str "price", .str "thing"], .lst [.str "search", .str "forgets", .str "keeps"], .lst [.str "tells", .str "evening", .str "now"]]) (μ ++ j) := by
  refine ⟨[.lst [.lst [.str "counts", .str "comes", .str "fits"], .lst [.str "evening", .str "looks", .str "sends"], .lst [.str "lost", .str "again", .str "noted"], .lst [.str "remembers", .str "number", .str "price", .str "thing"]]], ?_⟩
  unfold ct__law_parts ctOf r_law_parts
  simp [apD, isLst, noX]
end L14

namespace L14
open PySem L2 DL
theorem cutL_1 {x : D} {xs : List D} : cutL (x :: xs) (some 1) none = xs := by
  have h1 : HT.sIx (x :: xs).length 0 (some 1) = 1 := by
    show (if (1 : Int) < 0 then ((1 : Int) + ((x :: xs).length : Int)).toNat else min (1 : Int).toNat (x :: xs).length) = 1
    rw [if_neg (by decide)]
    show min 1 (xs.length + 1) = 1
    omega
  have h2 : HT.sIx (x :: xs).length (x :: xs).length none = (x :: xs).length := rfl
  unfold cutL
  rw [h1, h2]
  simp
abbrev PWs : List (Str × List Str) := [("counts", ["comes", "fits"]), ("evening", ["looks", "sends"]), ("lost", ["again", "noted"]), ("remembers", ["number", "price", "thing"]), ("search", ["forgets", "keeps"]), ("tells", ["evening", "now"])]
def row (p : Str × List Str) : D := .lst (.str p.1 :: p.2.map D.str)
def put1 (kx : List Key × List D) (q : Str × Str) : List Key × List D := (putKs kx.1 (.inr q.1), putXs kx.1 kx.2 (.inr q.1) (.str q.2))
def Chs : List (Str × List Str) → List (Str × Str) → Prop := Paired fun p q => q.1 = p.1 ∧ q.2 ∈ p.2
abbrev bRule (a : Ad) : RS := rAsgD (gSt (rVar 1) (rBin getD (rVar 2) (rC (.int 0)))) (rCall 2 (ct__law_pick a) (rCons (rVar 0) (rCons (rSlice (rVar 2) (rSome (rC (.int 1))) rNone) rNil)))
theorem store_d {μ : List Ob} {d : Nat} {ks : List Key} {xs : List D} {k : Str} {x : D} (e : μ[d]? = some (.dct ks xs)) (hl : ks.length < 16777216) : storeD (.loc d) (.str k) x μ = .ok () (μ.set d (.dct (putKs ks (.inr k)) (putXs ks xs (.inr k) x))) := by
  unfold storeD
  simp only [e]
  show (match (D.str k).key with | some key => if ks.length < 16777216 then R.ok () (μ.set d (.dct (putKs ks key) (putXs ks xs key x))) else .bad | none => .bad) = _
  show (if ks.length < 16777216 then R.ok () (μ.set d (.dct (putKs ks (.inr k)) (putXs ks xs (.inr k) x))) else .bad) = _
  rw [if_pos hl]
theorem len_putKs {ks : List Key} {k : Key} : (putKs ks k).length ≤ ks.length + 1 := by
  unfold putKs
  split
  · omega
  · simp
theorem LH.setd {μ : List Ob} {h c n d : Nat} {o : Ob} (L : LH μ h c n) (h1 : d ≠ h) (h2 : d ≠ c) : LH (μ.set d o) h c n := by
  obtain ⟨s, i, cs, e1, e2, e3, e4⟩ := L.ex
  exact ⟨L.ne, s, i, cs, by rw [List.getElem?_set_ne h1]; exact e1, by rw [List.getElem?_set_ne h2]; exact e2, e3, e4⟩
theorem rule_loop (a : Ad) {μ0 : List Ob} {h c n d : Nat} (dh : d ≠ h) (dc : d ≠ c) (d0 : μ0.length ≤ d) : ∀ (rows : List (Str × List Str)) (ks : List Key) (xs : List D) (o : Option D) (μ : List Ob), LH μ h c n → Fr μ0 μ h c → μ[d]? = some (.dct ks xs) → ks.length + rows.length < 1000 →
    (∀ p ∈ rows, 0 < p.2.length ∧ p.2.length < 1000) → ∃ ch o' μ', Chs rows ch ∧ forL (.nm 2) (bRule a) (rows.map row) [some (.loc h), some (.loc d), o] μ = .nx [some (.loc h), some (.loc d), o'] μ' ∧ LH μ' h c n ∧ Fr μ0 μ' h c ∧ μ'[d]? = some (.dct (ch.foldl put1 (ks, xs)).1 (ch.foldl put1 (ks, xs)).2)
  | [], ks, xs, o, μ, L, fr, e, _, _ => ⟨[], o, μ, .nil, rfl, L, fr, e⟩
  | p :: rows, ks, xs, o, μ, L, fr, e, hl, hp => by
    obtain ⟨p0, p1⟩ := hp p List.mem_cons_self
    obtain ⟨x, μ1, e1, hx, L1, fr1, hlen⟩ := pick_ok a (xs := p.2.map D.str) L (by simpa using p0) (by rw [List.length_map]; omega)
    obtain ⟨w, hw, rfl⟩ := List.mem_map.mp hx
    have ed := fr1.get dh dc e
    have hk : ks.length < 16777216 := by simp only [List.length_cons] at hl; omega
    have es := store_d (k := p.1) (x := .str w) ed hk
    have fr2 : Fr μ0 (μ1.set d (.dct (putKs ks (.inr p.1)) (putXs ks xs (.inr p.1) (.str w)))) h c := by
      have := fr.trans fr1
      exact ⟨by rw [List.length_set]; exact this.le, fun k k1 k2 k3 => by rw [List.getElem?_set_ne (by omega)]; exact this.at_ k k1 k2 k3⟩
    have hpk := len_putKs (ks := ks) (k := .inr p.1)
    obtain ⟨ch, o', μ', hc, ef, L', fr', e'⟩ := rule_loop a dh dc d0 rows (putKs ks (.inr p.1)) (putXs ks xs (.inr p.1) (.str w)) (some (row p)) _ (L1.setd dh dc) fr2 (by rw [at_set (lt_of ed), if_pos rfl]) (by simp only [List.length_cons] at hl; omega) (fun q hq => hp q (List.mem_cons_of_mem _ hq))
    refine ⟨(p.1, w) :: ch, o', μ', .cons ⟨rfl, hw⟩ hc, ?_, L', fr', e'⟩
    rw [List.map_cons, forL]
    show (match bRule a [some (.loc h), some (.loc d), some (row p)] μ with
      | .nx δ2 μ2 => forL (.nm 2) (bRule a) (rows.map row) δ2 μ2
      | .ct δ2 μ2 => forL (.nm 2) (bRule a) (rows.map row) δ2 μ2
      | .bk δ2 μ2 => .nx δ2 μ2
      | r => r) = _
    have eb : bRule a [some (.loc h), some (.loc d), some (row p)] μ = .nx [some (.loc h), some (.loc d), some (row p)] (μ1.set d (.dct (putKs ks (.inr p.1)) (putXs ks xs (.inr p.1) (.str w)))) := by
      simp [bRule, row, cutL_1, e1, es]
    rw [eb]
    exact ef
abbrev K6 : List Key := [.inr "counts", .inr "evening", .inr "lost", .inr "remembers", .inr "search", .inr "tells"]
/-- a rule: one word of each part -/
structure RuleIs (w1 w2 w3 w4 w5 w6 : Str) : Prop where
  m1 : w1 ∈ (["comes", "fits"] : List Str)
  m2 : w2 ∈ (["looks", "sends"] : List Str)
  m3 : w3 ∈ (["again", "noted"] : List Str)
  m4 : w4 ∈ (["number", "price", "thing"] : List Str)
  m5 : w5 ∈ (["forgets", "keeps"] : List Str)
  m6 : w6 ∈ (["evening", "now"] : List Str)
def rule6 (w1 w2 w3 w4 w5 w6 : Str) : D := .dct K6 [.str w1, .str w2, .str w3, .str w4, .str w5, .str w6]
theorem hk1 : hasK [] (.inr "counts") = false := by decide +kernel
theorem hk2 : hasK [.inr "counts"] (.inr "evening") = false := by decide +kernel
theorem hk3 : hasK [.inr "counts", .inr "evening"] (.inr "lost") = false := by decide +kernel
theorem hk4 : hasK [.inr "counts", .inr "evening", .inr "lost"] (.inr "remembers") = false := by decide +kernel
theorem hk5 : hasK [.inr "counts", .inr "evening", .inr "lost", .inr "remembers"] (.inr "search") = false := by decide +kernel
theorem hk6 : hasK [.inr "counts", .inr "evening", .inr "lost", .inr "remembers", .inr "search"] (.inr "tells") = false := by decide +kernel
theorem hk7 : hasK K6 (.inr "tells") = true := by decide +kernel
theorem fold6 (w1 w2 w3 w4 w5 w6 : Str) : ([(("counts" : Str), w1), (("evening" : Str), w2), (("lost" : Str), w3), (("remembers" : Str), w4), (("search" : Str), w5), (("tells" : Str), w6)] : List (Str × Str)).foldl put1 ([], []) = (K6, [.str w1, .str w2, .str w3, .str w4, .str w5, .str w6]) := by
  simp [put1, putKs, putXs, hk1, hk2, hk3, hk4, hk5, hk6]
theorem nt1 : ¬ ((.inr "counts" : Key) = .inr "tells") := by decide +kernel
theorem nt2 : ¬ ((.inr "evening" : Key) = .inr "tells") := by decide +kernel
theorem nt3 : ¬ ((.inr "lost" : Key) = .inr "tells") := by decide +kernel
theorem nt4 : ¬ ((.inr "remembers" : Key) = .inr "tells") := by decide +kernel
theorem nt5 : ¬ ((.inr "search" : Key) = .inr "tells") := by decide +kernel
theorem putT (w1 w2 w3 w4 w5 w6 x : Str) : putKs K6 (.inr "tells") = K6 ∧ putXs K6 [.str w1, .str w2, .str w3, .str w4, .str w5, .str w6] (.inr "tells") (.str x) = [.str w1, .str w2, .str w3, .str w4, .str w5, .str x] := by
  unfold putKs putXs
  rw [if_pos hk7, if_pos hk7]
  refine ⟨rfl, ?_⟩
  simp only [List.zipWith_cons_cons, List.zipWith_nil_left, if_neg nt1, if_neg nt2, if_neg nt3, if_neg nt4, if_neg nt5, if_true]
theorem ch6 {ch : List (Str × Str)} (h : Chs PWs ch) : ∃ w1 w2 w3 w4 w5 w6, RuleIs w1 w2 w3 w4 w5 w6 ∧ ch = [(("counts" : Str), w1), (("evening" : Str), w2), (("lost" : Str), w3), (("remembers" : Str), w4), (("search" : Str), w5), (("tells" : Str), w6)] := by
  unfold Chs at h
  match ch, h with
  | [q1, q2, q3, q4, q5, q6], .cons h1 (.cons h2 (.cons h3 (.cons h4 (.cons h5 (.cons h6 .nil))))) =>
    obtain ⟨a1, b1⟩ := q1
    obtain ⟨a2, b2⟩ := q2
    obtain ⟨a3, b3⟩ := q3
    obtain ⟨a4, b4⟩ := q4
    obtain ⟨a5, b5⟩ := q5
    obtain ⟨a6, b6⟩ := q6
    obtain ⟨rfl, m1⟩ := h1
    obtain ⟨rfl, m2⟩ := h2
    obtain ⟨rfl, m3⟩ := h3
    obtain ⟨rfl, m4⟩ := h4
    obtain ⟨rfl, m5⟩ := h5
    obtain ⟨rfl, m6⟩ := h6
    exact ⟨b1, b2, b3, b4, b5, b6, ⟨m1, m2, m3, m4, m5, m6⟩, rfl⟩
theorem rule_ok (a : Ad) {μ : List Ob} {h c n : Nat} (L : LH μ h c n) : ∃ w1 w2 w3 w4 w5 w6 μ', RuleIs w1 w2 w3 w4 w5 w6 ∧ ct__law_rule a [.loc h] μ = .ok (rule6 w1 w2 w3 w4 w5 w6) μ' ∧ LH μ' h c n ∧ Fr μ μ' h c := by
  obtain ⟨s, i, cs, e1, e2, e3, e4⟩ := L.ex
  have l1 := lt_of e1
  have l2 := lt_of e2
  obtain ⟨j, ep⟩ := parts_ok a (μ ++ [.dct [] []])
  have dh : μ.length ≠ h := by omega
  have dc : μ.length ≠ c := by omega
  have ed : (μ ++ [Ob.dct [] []] ++ j)[μ.length]? = some (.dct [] []) := by simp
  obtain ⟨ch, o', μ1, hc, ef, L1, fr1, ed1⟩ := rule_loop a (μ0 := μ) dh dc (Nat.le_refl _) PWs [] [] none (μ ++ [.dct [] []] ++ j) ((L.app _).app _) ((Fr.app _).trans (Fr.app _)) ed (by simp) (by decide)
  obtain ⟨w1, w2, w3, w4, w5, w6, R, rfl⟩ := ch6 hc
  rw [fold6] at ed1
  simp only at ed1
  obtain ⟨v, μ2, e5, v0, v1, L2, fr2, hl2⟩ := draw_next a (cap := 2) L1 (by decide) (by decide)
  have ed2 := fr2.get dh dc ed1
  have ef' : forL (.nm 2) (bRule a) [.lst [.str "counts", .str "comes", .str "fits"], .lst [.str "evening", .str "looks", .str "sends"], .lst [.str "lost", .str "again", .str "noted"], .lst [.str "remembers", .str "number", .str "price", .str "thing"], .lst [.str "search", .str "forgets", .str "keeps"], .lst [.str "tells", .str "evening", .str "now"]] [some (.loc h), some (.loc μ.length), none] (μ ++ .dct [] [] :: j) = .nx [some (.loc h), some (.loc μ.length), o'] μ1 := by
    have e : μ ++ .dct [] [] :: j = μ ++ [.dct [] []] ++ j := by simp
    rw [e]
    exact ef
  have fin : ∀ (μ3 : List Ob) (x : Str), LH μ3 h c n → Fr μ μ3 h c → μ3[μ.length]? = some (.dct K6 [.str w1, .str w2, .str w3, .str w4, .str w5, .str x]) → LH (μ3.set μ.length .dead) h c n ∧ Fr μ (μ3.set μ.length .dead) h c := fun μ3 x L3 fr3 e => by
    refine ⟨L3.setd dh dc, ⟨by rw [List.length_set]; exact fr3.le, fun k k1 k2 k3 => ?_⟩⟩
    rw [List.getElem?_set_ne (by omega)]
    exact fr3.at_ k k1 k2 k3
  have fr12 := fr1.trans fr2
  by_cases hv : v = 0
  · obtain ⟨g1, g2⟩ := putT w1 w2 w3 w4 w5 w6 "evening"
    have es := store_d (k := "tells") (x := .str "evening") ed2 (by show (6 : Nat) < 16777216; decide)
    rw [g1, g2] at es
    have ed3 : (μ2.set μ.length (.dct K6 [.str w1, .str w2, .str w3, .str w4, .str w5, .str "evening"]))[μ.length]? = some (.dct K6 [.str w1, .str w2, .str w3, .str w4, .str w5, .str "evening"]) := by rw [at_set (lt_of ed2), if_pos rfl]
    have fr3 : Fr μ (μ2.set μ.length (.dct K6 [.str w1, .str w2, .str w3, .str w4, .str w5, .str "evening"])) h c := ⟨by rw [List.length_set]; exact fr12.le, fun k k1 k2 k3 => by rw [List.getElem?_set_ne (by omega)]; exact fr12.at_ k k1 k2 k3⟩
    obtain ⟨f1, f2⟩ := fin _ "evening" (L2.setd dh dc) fr3 ed3
    refine ⟨w1, w2, w3, w4, w5, "evening", _, ⟨R.m1, R.m2, R.m3, R.m4, R.m5, List.mem_cons_self⟩, ?_, f1, f2⟩
    unfold ct__law_rule ctOf r_law_rule
    simp [ep, ef', itemsD, e5, hv, es, ed3, eqD, D.okd, D.eqb, rule6]
  · obtain ⟨f1, f2⟩ := fin _ w6 L2 fr12 ed2
    refine ⟨w1, w2, w3, w4, w5, w6, _, R, ?_, f1, f2⟩
    unfold ct__law_rule ctOf r_law_rule
    have hv' : (v == 0) = false := beq_eq_false_iff_ne.mpr hv
    simp [ep, ef', itemsD, e5, hv', ed2, eqD, D.okd, D.eqb, rule6]
end L14

namespace L14
open PySem L2 DL
abbrev W6 : List Str := ["anew", "lose", "number", "pause", "price", "search"]
/-- a comprehension whose test and part only look -/
theorem comp_look {i : Nat} {vs : List Nat} {ft : RT} {fe : RE} {δ : Sl} {μ : List Ob} (p : D → Bool) (f : D → D) : ∀ (ds acc : List D), acc.length + ds.length ≤ 16777216 → (∀ x ∈ ds, ft ((wipeD δ vs).set i (some x)) μ = .ok (p x) μ) → (∀ x ∈ ds, p x = true → fe ((wipeD δ vs).set i (some x)) μ = .ok (f x) μ) →
    compL (.nm i) vs ft fe ds δ μ acc = .ok (acc ++ (ds.filter p).map f) μ
  | [], acc, _, _, _ => by simp [compL]
  | x :: ds, acc, hl, h1, h2 => by
    rw [List.length_cons] at hl
    have ih := fun acc' hl' => comp_look (i := i) (vs := vs) (ft := ft) (fe := fe) (δ := δ) (μ := μ) p f ds acc' hl' (fun y hy => h1 y (List.mem_cons_of_mem _ hy)) (fun y hy => h2 y (List.mem_cons_of_mem _ hy))
    rw [compL]
    simp only [Tg.set]
    rw [h1 x List.mem_cons_self]
    cases hp : p x with
    | false =>
      simp only
      rw [ih acc (by omega), List.filter_cons, hp]
      rfl
    | true =>
      simp only
      rw [h2 x List.mem_cons_self hp]
      simp only
      rw [if_pos (by omega), ih (acc ++ [f x]) (by rw [List.length_append, List.length_singleton]; omega), List.filter_cons, hp]
      simp
/-- .. of draws -/
theorem comp_draw (a : Ad) {h c n : Nat} {fe : RE} {δ : Sl} {vs : List Nat} {i : Nat} (xs : List D) (hf : ∀ x μ, LH μ h c n → ∃ y μ', fe ((wipeD δ vs).set i (some x)) μ = .ok y μ' ∧ y ∈ xs ∧ LH μ' h c n ∧ Fr μ μ' h c) : ∀ (ds acc : List D) (μ : List Ob), acc.length + ds.length ≤ 16777216 → LH μ h c n → (∀ y ∈ acc, y ∈ xs) →
    ∃ ys μ', compL (.nm i) vs rYes fe ds δ μ acc = .ok ys μ' ∧ (∀ y ∈ ys, y ∈ xs) ∧ LH μ' h c n ∧ Fr μ μ' h c
  | [], acc, μ, _, L, ha => ⟨acc, μ, rfl, ha, L, .refl⟩
  | x :: ds, acc, μ, hl, L, ha => by
    rw [List.length_cons] at hl
    obtain ⟨y, μ1, e, hy, L1, fr1⟩ := hf x μ L
    obtain ⟨ys, μ', e2, h2, L2, fr2⟩ := comp_draw a xs hf ds (acc ++ [y]) μ1 (by rw [List.length_append, List.length_singleton]; omega) L1 (fun z hz => by
      rcases List.mem_append.mp hz with hz | hz
      · exact ha z hz
      · rw [List.mem_singleton.mp hz]; exact hy)
    refine ⟨ys, μ', ?_, h2, L2, fr1.trans fr2⟩
    rw [compL]
    simp only [Tg.set, s_rYes]
    rw [e]
    simp only
    rw [if_pos (by omega)]
    exact e2
theorem okd_strs : ∀ (n : Nat) (ws : List Str), (∀ x ∈ ws, PyData.strOk x = true) → okdL n (ws.map D.str) = true
  | n, [], _ => by simp [okdL]
  | n, x :: ws, h => by
    rw [List.map_cons, okdL, Bool.and_eq_true]
    refine ⟨?_, okd_strs n ws fun y hy => h y (List.mem_cons_of_mem _ hy)⟩
    rw [D.okd]
    exact h x List.mem_cons_self
theorem w6_ok : ∀ x ∈ W6, PyData.strOk x = true := by decide +kernel
theorem okd_strs_mem {n : Nat} {ws : List Str} {ys : List D} (h : ∀ x ∈ ws, PyData.strOk x = true) : (∀ y ∈ ys, y ∈ ws.map D.str) → okdL n ys = true := by
  induction ys with
  | nil => intro _; simp [okdL]
  | cons y ys ih =>
    intro hy
    obtain ⟨w, hw, rfl⟩ := List.mem_map.mp (hy y List.mem_cons_self)
    rw [okdL, Bool.and_eq_true]
    refine ⟨?_, ih fun z hz => hy z (List.mem_cons_of_mem _ hz)⟩
    rw [D.okd]
    exact h w hw
/-- some of the words, in their order -/
def wordsD (p : Str → Bool) : D := .tup ((W6.filter p).map D.str)
theorem filter_strs (q : D → Bool) : ∀ ws : List Str, (ws.map D.str).filter q = (ws.filter fun w => q (.str w)).map D.str
  | [] => rfl
  | w :: ws => by
    rw [List.map_cons, List.filter_cons, List.filter_cons, filter_strs q ws]
    cases q (.str w) <;> rfl
theorem words_ok (a : Ad) {μ : List Ob} {h c n : Nat} {many : Int} (L : LH μ h c n) (m0 : 0 ≤ many) (m1 : many < 1000) : ∃ p μ', ct__law_words a [.loc h, .int many] μ = .ok (wordsD p) μ' ∧ LH μ' h c n ∧ Fr μ μ' h c := by
  obtain ⟨v, μ1, e1, v0, v1, L1, fr1, hl1⟩ := draw_next a (cap := many + 1) L (by omega) (by omega)
  let δ : Sl := [some (.loc h), some (.int many), some (.lst (W6.map D.str)), none, none, none]
  obtain ⟨ys, μ2, e2, hy, L2, fr2⟩ := comp_draw a (δ := δ) (vs := [4]) (i := 4) (h := h) (c := c) (n := n) (fe := rCall 2 (ct__law_pick a) (rCons (rVar 0) (rCons (rVar 2) rNil))) (W6.map D.str) (fun x μ L => by
    obtain ⟨y, μ', e, hy, L', fr, _⟩ := pick_ok a (xs := W6.map D.str) L (by decide) (by decide)
    refine ⟨y, μ', ?_, hy, L', fr⟩
    have e' : ct__law_pick a [.loc h, .lst [.str "anew", .str "lose", .str "number", .str "pause", .str "price", .str "search"]] μ = .ok y μ' := e
    simp [δ, wipeD, e']) (DL.upTo 0 v.toNat) [] μ1 (by simp [DL.upTo]; omega) L1 (fun y hy => by cases hy)
  have e3 := comp_look (i := 5) (vs := [5]) (ft := rT (rBin (inD false) (rVar 5) (rVar 3))) (fe := rVar 5) (δ := [some (.loc h), some (.int many), some (.lst (W6.map D.str)), some (.lst ys), none, none]) (μ := μ2) (fun x => ys.any fun z => z.eqb x) id (W6.map D.str) [] (by decide) (fun x hx => by
    obtain ⟨w, hw, rfl⟩ := List.mem_map.mp hx
    have k1 : okdL 60 ys = true := okd_strs_mem w6_ok hy
    have k2 := w6_ok w hw
    simp [wipeD, D.okd, k1, k2]) (fun x hx _ => by simp [wipeD])
  refine ⟨fun w => ys.any fun z => z.eqb (.str w), μ2, ?_, L2, fr1.trans fr2⟩
  have v62 : v < 4611686018427387904 := by omega
  have v63 : -4611686018427387904 ≤ v := by omega
  have e2' : compL (.nm 4) [4] rYes (rCall 2 (ct__law_pick a) (rCons (rVar 0) (rCons (rVar 2) rNil))) (DL.upTo 0 v.toNat) [some (.loc h), some (.int many), some (.lst [.str "anew", .str "lose", .str "number", .str "pause", .str "price", .str "search"]), none, none, none] μ1 [] = .ok ys μ2 := e2
  have e3' : compL (.nm 5) [5] (rT (rBin (inD false) (rVar 5) (rVar 3))) (rVar 5) [.str "anew", .str "lose", .str "number", .str "pause", .str "price", .str "search"] [some (.loc h), some (.int many), some (.lst [.str "anew", .str "lose", .str "number", .str "pause", .str "price", .str "search"]), some (.lst ys), none, none] μ2 [] = .ok ((W6.filter fun w => ys.any fun z => z.eqb (.str w)).map D.str) μ2 := by
    have := e3
    rw [filter_strs] at this
    simpa using this
  unfold ct__law_words ctOf r_law_words
  simp [e1, v62, v63, e2', e3', itemsD, wordsD]
theorem draw_ok (a : Ad) {μ : List Ob} {h c n : Nat} (L : LH μ h c n) : ∃ w1 w2 w3 w4 w5 w6 p μ', RuleIs w1 w2 w3 w4 w5 w6 ∧ ct__law_draw a [.loc h] μ = .ok (.loc μ'.length) (μ' ++ [.lst [.int 2, rule6 w1 w2 w3 w4 w5 w6, wordsD p]]) ∧ LH μ' h c n ∧ Fr μ μ' h c := by
  obtain ⟨w1, w2, w3, w4, w5, w6, μ1, R, e1, L1, fr1⟩ := rule_ok a L
  obtain ⟨p, μ2, e2, L2, fr2⟩ := words_ok a (many := 3) L1 (by decide) (by decide)
  refine ⟨w1, w2, w3, w4, w5, w6, p, μ2, R, ?_, L2, fr1.trans fr2⟩
  unfold ct__law_draw ctOf r_law_draw
  simp [e1, e2]
end L14

namespace L14
open PySem L2 DL
theorem kn01 : ¬ ((.inr "counts" : Key) = .inr "evening") := by decide +kernel
theorem kn02 : ¬ ((.inr "counts" : Key) = .inr "lost") := by decide +kernel
theorem kn03 : ¬ ((.inr "counts" : Key) = .inr "remembers") := by decide +kernel
theorem kn04 : ¬ ((.inr "counts" : Key) = .inr "search") := by decide +kernel
theorem kn05 : ¬ ((.inr "counts" : Key) = .inr "tells") := by decide +kernel
theorem kn12 : ¬ ((.inr "evening" : Key) = .inr "lost") := by decide +kernel
theorem kn13 : ¬ ((.inr "evening" : Key) = .inr "remembers") := by decide +kernel
theorem kn14 : ¬ ((.inr "evening" : Key) = .inr "search") := by decide +kernel
theorem kn15 : ¬ ((.inr "evening" : Key) = .inr "tells") := by decide +kernel
theorem kn23 : ¬ ((.inr "lost" : Key) = .inr "remembers") := by decide +kernel
theorem kn24 : ¬ ((.inr "lost" : Key) = .inr "search") := by decide +kernel
theorem kn25 : ¬ ((.inr "lost" : Key) = .inr "tells") := by decide +kernel
theorem kn34 : ¬ ((.inr "remembers" : Key) = .inr "search") := by decide +kernel
theorem kn35 : ¬ ((.inr "remembers" : Key) = .inr "tells") := by decide +kernel
theorem kn45 : ¬ ((.inr "search" : Key) = .inr "tells") := by decide +kernel
theorem lk0 (x0 x1 x2 x3 x4 x5 : D) : lookD K6 [x0, x1, x2, x3, x4, x5] (.inr "counts") = some x0 := by
  rw [lookD, if_pos rfl]
theorem lk1 (x0 x1 x2 x3 x4 x5 : D) : lookD K6 [x0, x1, x2, x3, x4, x5] (.inr "evening") = some x1 := by
  rw [lookD, if_neg kn01]
  rw [lookD, if_pos rfl]
theorem lk2 (x0 x1 x2 x3 x4 x5 : D) : lookD K6 [x0, x1, x2, x3, x4, x5] (.inr "lost") = some x2 := by
  rw [lookD, if_neg kn02]
  rw [lookD, if_neg kn12]
  rw [lookD, if_pos rfl]
theorem lk3 (x0 x1 x2 x3 x4 x5 : D) : lookD K6 [x0, x1, x2, x3, x4, x5] (.inr "remembers") = some x3 := by
  rw [lookD, if_neg kn03]
  rw [lookD, if_neg kn13]
  rw [lookD, if_neg kn23]
  rw [lookD, if_pos rfl]
theorem lk4 (x0 x1 x2 x3 x4 x5 : D) : lookD K6 [x0, x1, x2, x3, x4, x5] (.inr "search") = some x4 := by
  rw [lookD, if_neg kn04]
  rw [lookD, if_neg kn14]
  rw [lookD, if_neg kn24]
  rw [lookD, if_neg kn34]
  rw [lookD, if_pos rfl]
theorem lk5 (x0 x1 x2 x3 x4 x5 : D) : lookD K6 [x0, x1, x2, x3, x4, x5] (.inr "tells") = some x5 := by
  rw [lookD, if_neg kn05]
  rw [lookD, if_neg kn15]
  rw [lookD, if_neg kn25]
  rw [lookD, if_neg kn35]
  rw [lookD, if_neg kn45]
  rw [lookD, if_pos rfl]
theorem kb_int : kitB "int" "int" = some true := by decide +kernel
theorem kb_ib : kitB "int" "bool" = some false := by decide +kernel
theorem kb_str : kitB "str" "str" = some true := by decide +kernel
theorem kb_dct : kitB "dict" "dict" = some true := by decide +kernel
theorem kb_tup : kitB "tuple" "tuple" = some true := by decide +kernel
theorem any_str {ws : List Str} {w : Str} (h : w ∈ ws) : ((ws.map D.str).any fun z => z.eqb (.str w)) = true := by
  rw [List.any_eq_true]
  refine ⟨.str w, List.mem_map_of_mem h, ?_⟩
  rw [D.eqb]
  exact beq_self_eq_true w
theorem any_str' {ws : List Str} {w : Str} : ((ws.map D.str).any fun z => z.eqb (.str w)) = decide (w ∈ ws) := by
  rw [Bool.eq_iff_iff, decide_eq_true_iff]
  refine ⟨fun h => ?_, any_str⟩
  obtain ⟨z, hz, e⟩ := List.any_eq_true.mp h
  obtain ⟨x, hx, rfl⟩ := List.mem_map.mp hz
  rw [D.eqb] at e
  rw [← eq_of_beq e]
  exact hx
theorem is_int (a : Ad) {i : Int} {μ : List Ob} (h : 2 ≤ i ∧ i ≤ 3) : ct_is_integer a [.int i, .int 2, .int 3] μ = .ok (.bl true) μ := by
  unfold ct_is_integer ctOf r_is_integer
  simp [isiD, isT, D.tyS, kb_int, kb_ib, h.1, h.2]
theorem is_word_l (a : Ad) {w : Str} {ws : List Str} {μ : List Ob} (h : w ∈ ws) (ho : ∀ x ∈ ws, PyData.strOk x = true) : ct_is_word a [.str w, .lst (ws.map D.str)] μ = .ok (.bl true) μ := by
  unfold ct_is_word ctOf r_is_word
  simp only [List.map_cons, List.map_nil, List.replicate, List.append_nil]
  simp only [s_rRet, s_rAndV, s_rCB, s_rCons, s_rVar, s_rC, s_rNil, s_rBin]
  have h2 : ∃ x, x ∈ ws ∧ (D.str x).eqb (D.str w) = true := ⟨w, h, by rw [D.eqb]; exact beq_self_eq_true w⟩
  simp [isiD, isT, D.tyS, kb_str, h2, D.okd, ho w h, okd_strs 60 ws ho]
theorem is_word_t (a : Ad) {w : Str} {ws : List Str} {μ : List Ob} (h : w ∈ ws) (ho : ∀ x ∈ ws, PyData.strOk x = true) : ct_is_word a [.str w, .tup (ws.map D.str)] μ = .ok (.bl true) μ := by
  unfold ct_is_word ctOf r_is_word
  simp only [List.map_cons, List.map_nil, List.replicate, List.append_nil]
  simp only [s_rRet, s_rAndV, s_rCB, s_rCons, s_rVar, s_rC, s_rNil, s_rBin]
  have h2 : ∃ x, x ∈ ws ∧ (D.str x).eqb (D.str w) = true := ⟨w, h, by rw [D.eqb]; exact beq_self_eq_true w⟩
  simp [isiD, isT, D.tyS, kb_str, h2, D.okd, ho w h, okd_strs 60 ws ho]
abbrev KW : List Str := ["counts", "evening", "lost", "remembers", "search", "tells"]
theorem kw_ok : ∀ x ∈ KW, PyData.strOk x = true := by decide +kernel
theorem p1_ok : ∀ x ∈ (["comes", "fits"] : List Str), PyData.strOk x = true := by decide +kernel
theorem p2_ok : ∀ x ∈ (["looks", "sends"] : List Str), PyData.strOk x = true := by decide +kernel
theorem p3_ok : ∀ x ∈ (["again", "noted"] : List Str), PyData.strOk x = true := by decide +kernel
theorem p4_ok : ∀ x ∈ (["number", "price", "thing"] : List Str), PyData.strOk x = true := by decide +kernel
theorem p5_ok : ∀ x ∈ (["forgets", "keeps"] : List Str), PyData.strOk x = true := by decide +kernel
theorem p6_ok : ∀ x ∈ (["evening", "now"] : List Str), PyData.strOk x = true := by decide +kernel
theorem bls_true : ∀ xs : List D, blsD (xs.map fun _ => D.bl true) = some (xs.map fun _ => true)
  | [] => rfl
  | x :: xs => by
    rw [List.map_cons, blsD, bls_true xs]
    rfl
theorem all_true {xs : List D} {μ : List Ob} : allD false [.lst (xs.map fun _ => D.bl true)] μ = .ok (.bl true) μ := by
  unfold allD
  simp [bls_true]
theorem onP_P (a : Ad) (g : List Ob → R D) (μ : List Ob) : onP a.cPARTS g [d_PARTS a] μ = g μ := if_pos rfl
theorem check_ok (a : Ad) {w1 w2 w3 w4 w5 w6 : Str} {μ : List Ob} (Q : RuleIs w1 w2 w3 w4 w5 w6) : ct_check_rule a [rule6 w1 w2 w3 w4 w5 w6] μ = .ok .non μ := by
  have e1 := comp_look (i := 1) (vs := [1]) (ft := rYes) (fe := rCall 2 (ct_is_word a) (rCons (rVar 1) (rCons (rCB (onP a.cPARTS fun μ => .ok (.lst (((kv_PARTS a).map (·.1)).map Key.d)) μ) (rCons (rC (d_PARTS a)) rNil)) rNil))) (δ := [some (.dct K6 [.str w1, .str w2, .str w3, .str w4, .str w5, .str w6]), none, none]) (μ := μ) (fun _ => true) (fun _ => .bl true) (KW.map D.str) [] (by decide) (fun x _ => rfl) (fun x hx _ => by
    obtain ⟨w, hw, rfl⟩ := List.mem_map.mp hx
    have := is_word_l a (μ := μ) hw kw_ok
    simp [wipeD, onP_P]
    exact this)
  have e1' : compL (.nm 1) [1] rYes (rCall 2 (ct_is_word a) (rCons (rVar 1) (rCons (rCB (onP a.cPARTS fun μ => .ok (.lst (((kv_PARTS a).map (·.1)).map Key.d)) μ) (rCons (rC (d_PARTS a)) rNil)) rNil))) (K6.map Key.d) [some (.dct K6 [.str w1, .str w2, .str w3, .str w4, .str w5, .str w6]), none, none] μ [] = .ok ((KW.map D.str).map fun _ => .bl true) μ := by
    refine e1.trans ?_
    simp
  have l1 := is_word_t a (μ := μ) Q.m1 p1_ok
  have l2 := is_word_t a (μ := μ) Q.m2 p2_ok
  have l3 := is_word_t a (μ := μ) Q.m3 p3_ok
  have l4 := is_word_t a (μ := μ) Q.m4 p4_ok
  have l5 := is_word_t a (μ := μ) Q.m5 p5_ok
  have l6 := is_word_t a (μ := μ) Q.m6 p6_ok
  have hp : pairsP ((kv_PARTS a).map (·.1)) xs_PARTS = [.tup [.str "counts", .tup ((["comes", "fits"] : List Str).map D.str)], .tup [.str "evening", .tup ((["looks", "sends"] : List Str).map D.str)], .tup [.str "lost", .tup ((["again", "noted"] : List Str).map D.str)], .tup [.str "remembers", .tup ((["number", "price", "thing"] : List Str).map D.str)], .tup [.str "search", .tup ((["forgets", "keeps"] : List Str).map D.str)], .tup [.str "tells", .tup ((["evening", "now"] : List Str).map D.str)]] := rfl
  have hl : ((kv_PARTS a).length : Int) = 6 := rfl
  have al := all_true (xs := KW.map D.str) (μ := μ)
  have hP : rP a.cPARTS (pairsP ((kv_PARTS a).map (·.1)) xs_PARTS) (rC (d_PARTS a)) [some (.dct K6 [.str w1, .str w2, .str w3, .str w4, .str w5, .str w6]), none, none] μ = .ok (pairsP ((kv_PARTS a).map (·.1)) xs_PARTS) μ := if_pos rfl
  have t : rOrT (rNotT (rT (rCB (isiD (.ty "dict") (isT "dict")) (rCons (rVar 0) (rCons (rC (.vv (.ty "dict"))) rNil))))) (rOrT (rT (rBin neD (rCB lenD (rCons (rVar 0) rNil)) (rCB (onP a.cPARTS fun μ => .ok (.int ((kv_PARTS a).length : Nat)) μ) (rCons (rC (d_PARTS a)) rNil)))) (rNotT (rT (rCB (allD false) (rCons (rLc (rItems (rVar 0)) (.nm 1) (([("part", 1)] : List (Str × Nat)).map (·.2)) rYes (rCall 2 (ct_is_word a) (rCons (rVar 1) (rCons (rCB (onP a.cPARTS fun μ => .ok (.lst (((kv_PARTS a).map (·.1)).map Key.d)) μ) (rCons (rC (d_PARTS a)) rNil)) rNil)))) rNil)))))
      [some (.dct K6 [.str w1, .str w2, .str w3, .str w4, .str w5, .str w6]), none, none] μ = .ok false μ := by
    have c1 : rNotT (rT (rCB (isiD (.ty "dict") (isT "dict")) (rCons (rVar 0) (rCons (rC (.vv (.ty "dict"))) rNil)))) [some (.dct K6 [.str w1, .str w2, .str w3, .str w4, .str w5, .str w6]), none, none] μ = .ok false μ := by
      simp [isiD, isT, kb_dct, D.tyS]
    have c2 : rT (rBin neD (rCB lenD (rCons (rVar 0) rNil)) (rCB (onP a.cPARTS fun μ => .ok (.int ((kv_PARTS a).length : Nat)) μ) (rCons (rC (d_PARTS a)) rNil))) [some (.dct K6 [.str w1, .str w2, .str w3, .str w4, .str w5, .str w6]), none, none] μ = .ok false μ := by
      simp [onP_P, hl, neD, D.okd, D.eqb]
    have c3 : rNotT (rT (rCB (allD false) (rCons (rLc (rItems (rVar 0)) (.nm 1) (([("part", 1)] : List (Str × Nat)).map (·.2)) rYes (rCall 2 (ct_is_word a) (rCons (rVar 1) (rCons (rCB (onP a.cPARTS fun μ => .ok (.lst (((kv_PARTS a).map (·.1)).map Key.d)) μ) (rCons (rC (d_PARTS a)) rNil)) rNil)))) rNil))) [some (.dct K6 [.str w1, .str w2, .str w3, .str w4, .str w5, .str w6]), none, none] μ = .ok false μ := by
      have c4 : rLc (rItems (rVar 0)) (.nm 1) (([("part", 1)] : List (Str × Nat)).map (·.2)) rYes (rCall 2 (ct_is_word a) (rCons (rVar 1) (rCons (rCB (onP a.cPARTS fun μ => .ok (.lst (((kv_PARTS a).map (·.1)).map Key.d)) μ) (rCons (rC (d_PARTS a)) rNil)) rNil))) [some (.dct K6 [.str w1, .str w2, .str w3, .str w4, .str w5, .str w6]), none, none] μ = .ok (.lst ((KW.map D.str).map fun _ => .bl true)) μ := by
        show ((compL (.nm 1) [1] rYes _ (K6.map Key.d) _ μ []).bind fun ys μ2 => DL.R.ok (D.lst ys) μ2) = _
        rw [e1']
        rfl
      rw [s_rNotT, s_rT, s_rCB, s_rCons, c4]
      simp only [s_rNil, R.ok_bind]
      rw [al]
      rfl
    rw [s_rOrT, c1]
    simp only [R.ok_bind]
    rw [s_rOrT, c2]
    simp only [R.ok_bind]
    exact c3
  have f : forL (.tp [1, 2]) (rIfS (rNotT (rT (rCall 2 (ct_is_word a) (rCons (rBin getD (rVar 0) (rVar 1)) (rCons (rVar 2) rNil))))) (fun _ _ => .bad) (fun δ μ => .nx δ μ)) (pairsP ((kv_PARTS a).map (·.1)) xs_PARTS) [some (.dct K6 [.str w1, .str w2, .str w3, .str w4, .str w5, .str w6]), none, none] μ =
      .nx [some (.dct K6 [.str w1, .str w2, .str w3, .str w4, .str w5, .str w6]), some (.str "tells"), some (.tup [.str "evening", .str "now"])] μ := by
    rw [hp]
    simp only [List.map_cons, List.map_nil] at l1 l2 l3 l4 l5 l6 ⊢
    simp [forL, Tg.set, setsD, lk0, lk1, lk2, lk3, lk4, lk5, l1, l2, l3, l4, l5, l6]
  unfold ct_check_rule ctOf r_check_rule
  show (match (rSeq _ _) [some (.dct K6 [.str w1, .str w2, .str w3, .str w4, .str w5, .str w6]), none, none] μ with
    | .rt d μ1 => R.ok d μ1
    | .nx _ μ1 => .ok .non μ1
    | .exc x _ μ1 => .exc x μ1
    | _ => .bad) = _
  rw [s_rSeq, s_rIfS, t]
  simp only [R.ok_st]
  rw [s_rFor, hP]
  simp only [R.ok_st]
  rw [f]
end L14

namespace L14
open PySem L2 DL
abbrev F3 : List Str := ["highest", "terms", "kinds"]
def bookD (a : Ad) (p : Int) (r w : D) : D := .ins a.kBook F3 [.int p, r, w]
theorem st_fld {C : Addr} {f : Str} {k : Nat} {d : D} {μ : List Ob} {fs : List Str} {xs : List D} (e : μ[k]? = some (.ins C fs xs)) (hl : fs.length < 1000) (nd : fs.Nodup) : stFld C f (.loc k) d μ = .ok () (μ.set k (.ins C (putFs fs f) (putFx fs xs f d))) := by
  unfold stFld
  simp only [e, if_true]
  rw [if_pos hl, if_pos nd]
theorem pf1 : putFs [] "highest" = (["highest"] : List Str) := rfl
theorem pf2 : putFs ["highest"] "terms" = (["highest", "terms"] : List Str) := by decide +kernel
theorem pf3 : putFs ["highest", "terms"] "kinds" = F3 := by decide +kernel
theorem pn1 : (["highest"] : List Str).Nodup := by decide +kernel
theorem pn2 : (["highest", "terms"] : List Str).Nodup := by decide +kernel
theorem pg2 : ((["highest"] : List Str).any fun g => decide (g = "terms")) = false := by decide +kernel
theorem pg3 : ((["highest", "terms"] : List Str).any fun g => decide (g = "kinds")) = false := by decide +kernel
theorem px1 (d : D) : putFx [] [] "highest" d = [d] := rfl
theorem px2 (x d : D) : putFx ["highest"] [x] "terms" d = [x, d] := by
  unfold putFx
  rw [pg2]
  rfl
theorem px3 (x y d : D) : putFx ["highest", "terms"] [x, y] "kinds" d = [x, y, d] := by
  unfold putFx
  rw [pg3]
  rfl
theorem fw_ok (q : Str → Bool) : ∀ x ∈ W6.filter q, PyData.strOk x = true := fun x hx => w6_ok x (List.mem_filter.mp hx).1
theorem eqbL_refl_strs : ∀ ws : List Str, eqbL (ws.map D.str) (ws.map D.str) = true
  | [] => by simp [eqbL]
  | w :: ws => by
    rw [List.map_cons, eqbL, eqbL_refl_strs ws, Bool.and_true, D.eqb]
    exact beq_self_eq_true w
theorem ne_same {ws : List Str} {μ : List Ob} (ho : ∀ x ∈ ws, PyData.strOk x = true) : neD (.lst (ws.map D.str)) (.lst (ws.map D.str)) μ = .ok (.bl false) μ := by
  unfold neD
  have h : (D.lst (ws.map D.str)).okd 60 = true := by rw [D.okd]; exact okd_strs 59 ws ho
  simp only [vw_lst, h, Bool.and_self, if_true]
  rw [D.eqb, eqbL_refl_strs]
  rfl
/-- [word for word in WORDS if word in words] -/
theorem filt_comp {i : Nat} {vs : List Nat} {ft : RT} {δ : Sl} {μ : List Ob} (q : Str → Bool) (h1 : ∀ w ∈ W6, ft ((wipeD δ vs).set i (some (.str w))) μ = .ok (q w) μ) (hi : ∀ x, ((wipeD δ vs).set i (some x))[i]? = some (some x)) : compL (.nm i) vs ft (rVar i) (W6.map D.str) δ μ [] = .ok ((W6.filter q).map D.str) μ := by
  have e := comp_look (i := i) (vs := vs) (ft := ft) (fe := rVar i) (δ := δ) (μ := μ) (fun x => match x with
    | .str w => q w
    | _ => false) id (W6.map D.str) [] (by decide) (fun x hx => by
      obtain ⟨w, hw, rfl⟩ := List.mem_map.mp hx
      exact h1 w hw) (fun x hx _ => by
      rw [s_rVar, hi x]
      rfl)
  rw [e, filter_strs]
  simp
theorem init_ok (a : Ad) {w1 w2 w3 w4 w5 w6 : Str} {k : Nat} {p : Int} {q : Str → Bool} {μ : List Ob} (Q : RuleIs w1 w2 w3 w4 w5 w6) (hp : 2 ≤ p ∧ p ≤ 3) (e : μ[k]? = some (.ins a.kBook [] [])) :
    cm_Book a [.loc k, .int p, rule6 w1 w2 w3 w4 w5 w6, wordsD q] μ = .ok .non (μ.set k (.ins a.kBook F3 [.int p, rule6 w1 w2 w3 w4 w5 w6, wordsD q])) := by
  have i1 := is_int a (μ := μ) hp
  have i2 := check_ok a (μ := μ) Q
  let δ : Sl := [some (.loc k), some (.int p), some (rule6 w1 w2 w3 w4 w5 w6), some (wordsD q), none, none]
  -- all(..)
  have c1 : rLc (rItems (rVar 3)) (.nm 5) (([("word", 5)] : List (Str × Nat)).map (·.2)) rYes (rCall 2 (ct_is_word a) (rCons (rVar 5) (rCons (rC (d_WORDS a)) rNil))) δ μ = .ok (.lst (((W6.filter q).map D.str).map fun _ => .bl true)) μ := by
    have e1 := comp_look (i := 5) (vs := [5]) (ft := rYes) (fe := rCall 2 (ct_is_word a) (rCons (rVar 5) (rCons (rC (d_WORDS a)) rNil))) (δ := δ) (μ := μ) (fun _ => true) (fun _ => .bl true) ((W6.filter q).map D.str) [] (by
      rw [List.length_map]
      have := List.length_filter_le q W6
      have h6 : W6.length = 6 := rfl
      simp only [List.length_nil]
      omega) (fun x _ => rfl) (fun x hx _ => by
      obtain ⟨w, hw, rfl⟩ := List.mem_map.mp hx
      have := is_word_t a (μ := μ) (List.mem_filter.mp hw).1 w6_ok
      simp [δ, wipeD]
      exact this)
    show ((compL (.nm 5) [5] rYes _ ((W6.filter q).map D.str) δ μ []).bind fun ys μ2 => DL.R.ok (D.lst ys) μ2) = _
    rw [e1, List.nil_append, List.filter_eq_self.mpr (fun _ _ => rfl)]
    rfl
  have t1 : rOrT (rNotT (rT (rCB (isiD (.ty "tuple") (isT "tuple")) (rCons (rVar 3) (rCons (rC (.vv (.ty "tuple"))) rNil))))) (rNotT (rT (rCB (allD false) (rCons (rLc (rItems (rVar 3)) (.nm 5) (([("word", 5)] : List (Str × Nat)).map (·.2)) rYes (rCall 2 (ct_is_word a) (rCons (rVar 5) (rCons (rC (d_WORDS a)) rNil)))) rNil)))) δ μ = .ok false μ := by
    have c0 : rNotT (rT (rCB (isiD (.ty "tuple") (isT "tuple")) (rCons (rVar 3) (rCons (rC (.vv (.ty "tuple"))) rNil)))) δ μ = .ok false μ := by
      simp [δ, isiD, isT, kb_tup, D.tyS, wordsD]
    rw [s_rOrT, c0]
    simp only [R.ok_bind]
    rw [s_rNotT, s_rT, s_rCB, s_rCons, c1]
    simp only [s_rNil, R.ok_bind]
    rw [all_true]
    rfl
  have t2 : rT (rBin neD (rLc (rItems (rC (d_WORDS a))) (.nm 5) (([("word", 5)] : List (Str × Nat)).map (·.2)) (rT (rBin (inD false) (rVar 5) (rVar 3))) (rVar 5)) (rCB (listD false) (rCons (rVar 3) rNil))) δ μ = .ok false μ := by
    have f1 := filt_comp (i := 5) (vs := [5]) (ft := rT (rBin (inD false) (rVar 5) (rVar 3))) (δ := δ) (μ := μ) q (fun w hw => by
      have k1 := okd_strs 60 (W6.filter q) (fw_ok q)
      have k2 := w6_ok w hw
      have k3 : ((W6.filter q).map D.str).any (fun z => z.eqb (.str w)) = q w := by
        rw [any_str']
        rw [Bool.eq_iff_iff, decide_eq_true_iff, List.mem_filter]
        exact ⟨fun h => h.2, fun h => ⟨hw, h⟩⟩
      show (DL.R.bind (DL.R.bind (DL.R.ok (D.str w) μ) fun d μ1 => DL.R.bind (DL.R.ok (wordsD q) μ1) fun e μ2 => inD false d e μ2) fun d μ1 => match d with
        | .bl b => .ok b μ1
        | _ => .bad) = _
      simp only [R.ok_bind, wordsD, inD_tup, k3]
      rw [if_pos (by rw [D.okd, k2, k1]; rfl)]
      rfl) (fun x => rfl)
    have f2 : rLc (rItems (rC (d_WORDS a))) (.nm 5) (([("word", 5)] : List (Str × Nat)).map (·.2)) (rT (rBin (inD false) (rVar 5) (rVar 3))) (rVar 5) δ μ = .ok (.lst ((W6.filter q).map D.str)) μ := by
      show ((compL (.nm 5) [5] _ _ (W6.map D.str) δ μ []).bind fun ys μ2 => DL.R.ok (D.lst ys) μ2) = _
      rw [f1]
      rfl
    rw [s_rT, s_rBin, f2]
    simp only [R.ok_bind]
    have f3 : rCB (listD false) (rCons (rVar 3) rNil) δ μ = .ok (.lst ((W6.filter q).map D.str)) μ := by
      simp [δ, wordsD]
    rw [f3]
    simp only [R.ok_bind]
    rw [ne_same (fw_ok q)]
    rfl
  have hD : ∀ μ' : List Ob, rDc (rP a.cPARTS (((kv_PARTS a).map (·.1)).map Key.d) (rC (d_PARTS a))) (.nm 4) (([("part", 4)] : List (Str × Nat)).map (·.2)) rYes (rVar 4) (rBin getD (rVar 2) (rVar 4)) δ μ' = .ok (rule6 w1 w2 w3 w4 w5 w6) μ' := fun μ' => by
    have h1 : rP a.cPARTS (((kv_PARTS a).map (·.1)).map Key.d) (rC (d_PARTS a)) δ μ' = .ok [.str "counts", .str "evening", .str "lost", .str "remembers", .str "search", .str "tells"] μ' := if_pos rfl
    rw [s_rDc, h1]
    simp [δ, dcL, wipeD, Tg.set, rule6, D.key, lk0, lk1, lk2, lk3, lk4, lk5, putKs, putXs, hk1, hk2, hk3, hk4, hk5, hk6]
  have lk := lt_of e
  have s1 := st_fld (f := "highest") (d := .int p) e (by decide) List.nodup_nil
  rw [pf1, px1] at s1
  have e2 : (μ.set k (.ins a.kBook ["highest"] [.int p]))[k]? = some (.ins a.kBook ["highest"] [.int p]) := by rw [at_set lk, if_pos rfl]
  have s2 := st_fld (f := "terms") (d := rule6 w1 w2 w3 w4 w5 w6) e2 (by decide) pn1
  rw [pf2, px2, List.set_set] at s2
  have e3 : (μ.set k (.ins a.kBook ["highest", "terms"] [.int p, rule6 w1 w2 w3 w4 w5 w6]))[k]? = some (.ins a.kBook ["highest", "terms"] [.int p, rule6 w1 w2 w3 w4 w5 w6]) := by rw [at_set lk, if_pos rfl]
  have s3 := st_fld (f := "kinds") (d := wordsD q) e3 (by decide) pn2
  rw [pf3, px3, List.set_set] at s3
  unfold cm_Book ctOf r_Book_init
  show (match (rSeq _ _) δ μ with
    | .rt d μ1 => DL.R.ok d μ1
    | .nx _ μ1 => .ok .non μ1
    | .exc x _ μ1 => .exc x μ1
    | _ => .bad) = _
  have u1 : rIfS (rNotT (rT (rCall 3 (ct_is_integer a) (rCons (rVar 1) (rCons (rC (.int 2)) (rCons (rC (.int 3)) rNil)))))) (fun _ _ => .bad) (fun δ μ => .nx δ μ) δ μ = .nx δ μ := by
    simp [δ, i1]
  have u2 : rDrop (rCall 1 (ct_check_rule a) (rCons (rVar 2) rNil)) δ μ = .nx δ μ := by
    simp [δ, i2]
  rw [s_rSeq, u1]
  simp only
  rw [s_rSeq, u2]
  simp only
  rw [s_rSeq, s_rIfS, t1]
  simp only [R.ok_st]
  rw [s_rSeq, s_rIfS, t2]
  simp only [R.ok_st]
  have u3 : rSetF a.kBook "highest" (rVar 0) (rVar 1) δ μ = .nx δ (μ.set k (.ins a.kBook ["highest"] [.int p])) := by
    simp [δ, s1]
  rw [s_rSeq, u3]
  simp only
  have u4 : rSetF a.kBook "terms" (rVar 0) (rDc (rP a.cPARTS (((kv_PARTS a).map (·.1)).map Key.d) (rC (d_PARTS a))) (.nm 4) (([("part", 4)] : List (Str × Nat)).map (·.2)) rYes (rVar 4) (rBin getD (rVar 2) (rVar 4))) δ (μ.set k (.ins a.kBook ["highest"] [.int p])) = .nx δ (μ.set k (.ins a.kBook ["highest", "terms"] [.int p, rule6 w1 w2 w3 w4 w5 w6])) := by
    rw [s_rSetF, hD]
    simp [δ, s2]
  rw [s_rSeq, u4]
  simp only
  have u5 : rSetF a.kBook "kinds" (rVar 0) (rVar 3) δ (μ.set k (.ins a.kBook ["highest", "terms"] [.int p, rule6 w1 w2 w3 w4 w5 w6])) = .nx δ (μ.set k (.ins a.kBook F3 [.int p, rule6 w1 w2 w3 w4 w5 w6, wordsD q])) := by
    simp [δ, s3]
  rw [u5]
end L14

namespace L14
open PySem L2 DL
theorem make_ok (a : Ad) {w1 w2 w3 w4 w5 w6 : Str} {p : Int} {q : Str → Bool} {μ μ1 : List Ob} {δ : Sl} {fs : RA} (Q : RuleIs w1 w2 w3 w4 w5 w6) (hp : 2 ≤ p ∧ p ≤ 3) (e : fs δ μ = .ok [.int p, rule6 w1 w2 w3 w4 w5 w6, wordsD q] μ1) :
    rMake a.kBook 3 (cm_Book a) fs δ μ = .ok (bookD a p (rule6 w1 w2 w3 w4 w5 w6) (wordsD q)) (μ1 ++ [.dead]) := by
  have h0 : (μ1 ++ [Ob.ins a.kBook [] []])[μ1.length]? = some (.ins a.kBook [] []) := by simp
  have i := init_ok a (k := μ1.length) (q := q) Q hp h0
  have h1 : ∀ x y : Ob, (μ1 ++ [x]).set μ1.length y = μ1 ++ [y] := fun x y => by simp
  rw [h1] at i
  have h2 : (μ1 ++ [Ob.ins a.kBook F3 [.int p, rule6 w1 w2 w3 w4 w5 w6, wordsD q]])[μ1.length]? = some (.ins a.kBook F3 [.int p, rule6 w1 w2 w3 w4 w5 w6, wordsD q]) := by simp
  rw [s_rMake, e]
  simp only [R.ok_bind, List.length_cons, List.length_nil]
  simp only [if_true]
  rw [i]
  simp only [h2]
  rw [h1]
  rfl
theorem built_ok (a : Ad) {w1 w2 w3 w4 w5 w6 : Str} {p : Int} {q : Str → Bool} {μ : List Ob} {r : Nat} (Q : RuleIs w1 w2 w3 w4 w5 w6) (hp : 2 ≤ p ∧ p ≤ 3) (e : μ[r]? = some (.lst [.int p, rule6 w1 w2 w3 w4 w5 w6, wordsD q])) :
    ct__law_built a [.loc r] μ = .ok (bookD a p (rule6 w1 w2 w3 w4 w5 w6) (wordsD q)) (μ ++ [.dead]) := by
  have m := make_ok a (q := q) (δ := [some (.loc r)]) (μ := μ) (μ1 := μ) (fs := rCons (rBin getD (rVar 0) (rC (.int 0))) (rCons (rBin getD (rVar 0) (rC (.int 1))) (rCons (rBin getD (rVar 0) (rC (.int 2))) rNil))) Q hp (by simp [e])
  unfold ct__law_built ctOf r_law_built
  simp only [List.map_cons, List.map_nil, List.replicate, List.append_nil, s_rRet]
  rw [m]
  rfl
theorem fl0 (x y z : D) : lookD F3 [x, y, z] "highest" = some x := by rw [lookD, if_pos rfl]
theorem fn01 : ¬ (("highest" : Str) = "terms") := by decide +kernel
theorem fn02 : ¬ (("highest" : Str) = "kinds") := by decide +kernel
theorem fn12 : ¬ (("terms" : Str) = "kinds") := by decide +kernel
theorem fl1 (x y z : D) : lookD F3 [x, y, z] "terms" = some y := by rw [lookD, if_neg fn01, lookD, if_pos rfl]
theorem fl2 (x y z : D) : lookD F3 [x, y, z] "kinds" = some z := by rw [lookD, if_neg fn02, lookD, if_neg fn12, lookD, if_pos rfl]
theorem fld_h (a : Ad) {p : Int} {r w : D} {μ : List Ob} : fldD a.kBook "highest" (bookD a p r w) μ = .ok (.int p) μ := by
  unfold fldD bookD
  simp [fl0]
theorem fld_t (a : Ad) {p : Int} {r w : D} {μ : List Ob} : fldD a.kBook "terms" (bookD a p r w) μ = .ok r μ := by
  unfold fldD bookD
  simp [fl1]
theorem fld_k (a : Ad) {p : Int} {r w : D} {μ : List Ob} : fldD a.kBook "kinds" (bookD a p r w) μ = .ok w μ := by
  unfold fldD bookD
  simp [fl2]
theorem alike_strs (n : Nat) : ∀ ws : List Str, alike (eqN n) (ws.map D.str) (ws.map D.str) = true
  | [] => by simp [alike]
  | w :: ws => by
    rw [List.map_cons, alike, alike_strs n ws, Bool.and_true]
    cases n <;> simp [eqN]
theorem eqN_str (n : Nat) (w : Str) : eqN n (.str w) (.str w) = true := by cases n <;> simp [eqN]
theorem eqN_int (n : Nat) (w : Int) : eqN n (.int w) (.int w) = true := by cases n <;> simp [eqN]
theorem eq_ok (a : Ad) {w1 w2 w3 w4 w5 w6 : Str} {p : Int} {q : Str → Bool} {μ : List Ob} : cq_Book a [bookD a p (rule6 w1 w2 w3 w4 w5 w6) (wordsD q), bookD a p (rule6 w1 w2 w3 w4 w5 w6) (wordsD q)] μ = .ok (.bl true) μ := by
  have h : eqN (59 + 1) (.tup [.int p, rule6 w1 w2 w3 w4 w5 w6, wordsD q]) (.tup [.int p, rule6 w1 w2 w3 w4 w5 w6, wordsD q]) = true := by
    have h1 : eqN (58 + 1) (rule6 w1 w2 w3 w4 w5 w6) (rule6 w1 w2 w3 w4 w5 w6) = true := by
      unfold rule6
      rw [eqN]
      simp [alikeK, lk0, lk1, lk2, lk3, lk4, lk5, eqN_str]
    have h2 : eqN (58 + 1) (wordsD q) (wordsD q) = true := by
      unfold wordsD
      rw [eqN]
      exact alike_strs 58 _
    rw [eqN, alike, alike, alike, alike]
    rw [h1, h2, eqN_int]
    rfl
  have hi : isK a.kBook ((bookD a p (rule6 w1 w2 w3 w4 w5 w6) (wordsD q)).view μ) = some true := by
    unfold isK bookD
    simp
  unfold cq_Book ctOf r_Book_eq
  simp [isiD, hi, fld_h, fld_t, fld_k, eqTD]
  rw [if_pos h]
  rfl
end L14

namespace L14
open PySem L2 DL
theorem slen (x y : Str) : (x ++ y).length = x.length + y.length := Array.size_append
def ln (k w : Str) : Str := k ++ " " ++ w
def subs {α : Type} : List α → List (List α)
  | [] => [[]]
  | x :: xs => subs xs ++ (subs xs).map (x :: ·)
theorem filt_sub {α : Type} (q : α → Bool) : ∀ xs : List α, xs.filter q ∈ subs xs
  | [] => by simp [subs]
  | x :: xs => by
    have ih := filt_sub q xs
    rw [List.filter_cons, subs, List.mem_append]
    cases q x with
    | true => exact .inr (List.mem_map.mpr ⟨_, ih, rfl⟩)
    | false => exact .inl ih
def last (F : List Str) : Str := Txt.join " " ("words" :: F)
theorem last_len : ∀ F ∈ subs W6, (last F).length ≤ 100 := by decide +kernel
theorem last_nl : ∀ F ∈ subs W6, 10 ∉ TL.tl (last F) := by decide +kernel
theorem last_okj : ∀ F ∈ subs W6, ((((("words" : Str) :: F).map (·.length)).sum + (("words" : Str) :: F).length * (" " : Str).length) ≤ 16777216) := by decide +kernel
def ps (p : Int) : Str := ((toString p : String) : Str)
/-- the lines of a book's text -/
def lines (p : Int) (w1 w2 w3 w4 w5 w6 : Str) (F : List Str) : List Str := ["prices " ++ ps p, ln "counts" w1, ln "evening" w2, ln "lost" w3, ln "remembers" w4, ln "search" w5, ln "tells" w6, last F]
def textOf (p : Int) (w1 w2 w3 w4 w5 w6 : Str) (F : List Str) : Str := Txt.join "\n" (lines p w1 w2 w3 w4 w5 w6 F)
structure Wl (w : Str) : Prop where
  len : w.length ≤ 10
  nl : 10 ∉ TL.tl w
  sp : 32 ∉ TL.tl w
  ok : PyData.strOk w = true
theorem wl_of {ws : List Str} (h : (ws.all fun w => decide (w.length ≤ 10) && (!(TL.tl w).contains 10 && (!(TL.tl w).contains 32 && PyData.strOk w))) = true) : ∀ w ∈ ws, Wl w := fun w hw => by
  have := List.all_eq_true.mp h w hw
  simp only [Bool.and_eq_true, decide_eq_true_eq, Bool.not_eq_true', List.contains_eq_mem, decide_eq_false_iff_not] at this
  exact ⟨this.1, this.2.1, this.2.2.1, this.2.2.2⟩
theorem wl1 : ∀ w ∈ (["comes", "fits"] : List Str), Wl w := wl_of (by decide +kernel)
theorem wl2 : ∀ w ∈ (["looks", "sends"] : List Str), Wl w := wl_of (by decide +kernel)
theorem wl3 : ∀ w ∈ (["again", "noted"] : List Str), Wl w := wl_of (by decide +kernel)
theorem wl4 : ∀ w ∈ (["number", "price", "thing"] : List Str), Wl w := wl_of (by decide +kernel)
theorem wl5 : ∀ w ∈ (["forgets", "keeps"] : List Str), Wl w := wl_of (by decide +kernel)
theorem wl6 : ∀ w ∈ (["evening", "now"] : List Str), Wl w := wl_of (by decide +kernel)
theorem wlk : ∀ w ∈ KW, Wl w := wl_of (by decide +kernel)
theorem wlw : ∀ w ∈ ("words" :: W6 : List Str), Wl w := wl_of (by decide +kernel)
theorem wlp : ∀ w ∈ (["prices", "2", "3"] : List Str), Wl w := wl_of (by decide +kernel)
theorem sp_nl : 10 ∉ TL.tl " " := by decide +kernel
theorem ln_nl {k w : Str} (h1 : 10 ∉ TL.tl k) (h2 : 10 ∉ TL.tl w) : 10 ∉ TL.tl (ln k w) := by
  unfold ln
  rw [TL.tl_append, TL.tl_append]
  intro h
  rcases List.mem_append.mp h with h | h
  · rcases List.mem_append.mp h with h | h
    · exact h1 h
    · exact sp_nl h
  · exact h2 h
theorem pr2 : ("prices " : Str) ++ ps 2 = ln "prices" "2" := by decide +kernel
theorem pr3 : ("prices " : Str) ++ ps 3 = ln "prices" "3" := by decide +kernel
theorem pr_of {p : Int} (h : 2 ≤ p ∧ p ≤ 3) : ∃ z : Str, z ∈ (["2", "3"] : List Str) ∧ ("prices " : Str) ++ ps p = ln "prices" z ∧ PySem.intText? z = some p := by
  have : p = 2 ∨ p = 3 := by omega
  rcases this with rfl | rfl
  · exact ⟨"2", by simp, pr2, by decide +kernel⟩
  · exact ⟨"3", by simp, pr3, by decide +kernel⟩
theorem ln_join (k w : Str) : ln k w = Txt.join " " [k, w] := by
  rw [TL.join_eq]
  rfl
theorem ln_split {k w : Str} (h1 : 32 ∉ TL.tl k) (h2 : 32 ∉ TL.tl w) : Txt.split (ln k w) " " = [k, w] := by
  rw [ln_join]
  refine TL.split_join (s := 32) (S := []) (by decide +kernel) (by decide +kernel) (by simp) fun p hp => ?_
  rcases List.mem_cons.mp hp with rfl | hp
  · exact h1
  · rw [List.mem_singleton.mp hp]; exact h2
theorem last_split {F : List Str} (h : ∀ w ∈ F, w ∈ W6) : Txt.split (last F) " " = ("words" : Str) :: F := by
  unfold last
  refine TL.split_join (s := 32) (S := []) (by decide +kernel) (by decide +kernel) (by simp) fun p hp => ?_
  rcases List.mem_cons.mp hp with rfl | hp
  · exact (wlw _ List.mem_cons_self).sp
  · exact (wlw p (List.mem_cons_of_mem _ (h p hp))).sp
section
variable {p : Int} {w1 w2 w3 w4 w5 w6 : Str} {q : Str → Bool}
theorem lines_nl (Q : RuleIs w1 w2 w3 w4 w5 w6) (hp : 2 ≤ p ∧ p ≤ 3) : ∀ l ∈ lines p w1 w2 w3 w4 w5 w6 (W6.filter q), 10 ∉ TL.tl l := by
  obtain ⟨z, hz, ez, _⟩ := pr_of hp
  have z0 : 10 ∉ TL.tl z := (wlp z (List.mem_cons_of_mem _ hz)).nl
  intro l hl
  unfold lines at hl
  rw [ez] at hl
  simp only [List.mem_cons, List.not_mem_nil, or_false] at hl
  rcases hl with rfl | rfl | rfl | rfl | rfl | rfl | rfl | rfl
  · exact ln_nl (wlp _ (by simp)).nl z0
  · exact ln_nl (wlk _ (by simp)).nl (wl1 _ Q.m1).nl
  · exact ln_nl (wlk _ (by simp)).nl (wl2 _ Q.m2).nl
  · exact ln_nl (wlk _ (by simp)).nl (wl3 _ Q.m3).nl
  · exact ln_nl (wlk _ (by simp)).nl (wl4 _ Q.m4).nl
  · exact ln_nl (wlk _ (by simp)).nl (wl5 _ Q.m5).nl
  · exact ln_nl (wlk _ (by simp)).nl (wl6 _ Q.m6).nl
  · exact last_nl _ (filt_sub q W6)
theorem text_split (Q : RuleIs w1 w2 w3 w4 w5 w6) (hp : 2 ≤ p ∧ p ≤ 3) : Txt.split (textOf p w1 w2 w3 w4 w5 w6 (W6.filter q)) "\n" = lines p w1 w2 w3 w4 w5 w6 (W6.filter q) :=
  TL.split_join (s := 10) (S := []) (by decide +kernel) (by decide +kernel) (by simp [lines]) (lines_nl Q hp)
end
end L14

namespace L14
open PySem L2 DL
theorem sp_len : (" " : Str).length = 1 := by decide +kernel
theorem add1 {k : Str} {μ : List Ob} (h : Wl k) : addV (.str k) (.str " ") μ = .ok (.str (k ++ " ")) μ := by
  have := h.len
  rw [addV_str, if_pos (by rw [sp_len]; omega)]
theorem add2 {k w : Str} {μ : List Ob} (h : Wl k) (h' : Wl w) : addV (.str (k ++ " ")) (.str w) μ = .ok (.str (ln k w)) μ := by
  have := h.len
  have := h'.len
  rw [addV_str, if_pos (by rw [slen, sp_len]; omega)]
  rfl
theorem ln_len {k w : Str} (h : Wl k) (h' : Wl w) : (ln k w).length ≤ 21 := by
  have := h.len
  have := h'.len
  unfold ln
  rw [slen, slen, sp_len]
  omega
theorem strs_map : ∀ ws : List Str, strsD (ws.map D.str) = some ws
  | [] => rfl
  | w :: ws => by
    rw [List.map_cons, strsD, strs_map ws]
    rfl
theorem nl_len : ("\n" : Str).length = 1 := by decide +kernel
section
variable {p : Int} {w1 w2 w3 w4 w5 w6 : Str} {q : Str → Bool}
theorem prk : Wl "prices" := wlp _ (by simp)
theorem lines_len (Q : RuleIs w1 w2 w3 w4 w5 w6) (hp : 2 ≤ p ∧ p ≤ 3) : ((lines p w1 w2 w3 w4 w5 w6 (W6.filter q)).map (·.length)).sum + (lines p w1 w2 w3 w4 w5 w6 (W6.filter q)).length * ("\n" : Str).length ≤ 1000 := by
  obtain ⟨z, hz, ez, _⟩ := pr_of hp
  have z0 := ln_len prk (wlp z (List.mem_cons_of_mem _ hz))
  have h1 := ln_len (wlk "counts" (by simp)) (wl1 _ Q.m1)
  have h2 := ln_len (wlk "evening" (by simp)) (wl2 _ Q.m2)
  have h3 := ln_len (wlk "lost" (by simp)) (wl3 _ Q.m3)
  have h4 := ln_len (wlk "remembers" (by simp)) (wl4 _ Q.m4)
  have h5 := ln_len (wlk "search" (by simp)) (wl5 _ Q.m5)
  have h6 := ln_len (wlk "tells" (by simp)) (wl6 _ Q.m6)
  have h7 := last_len _ (filt_sub q W6)
  unfold lines
  rw [ez, nl_len]
  simp only [List.map_cons, List.map_nil, List.sum_cons, List.sum_nil, List.length_cons, List.length_nil]
  omega
theorem pr_add (hp : 2 ≤ p ∧ p ≤ 3) {μ : List Ob} : addV (.str "prices ") (.str (ps p)) μ = .ok (.str (("prices " : Str) ++ ps p)) μ := by
  obtain ⟨z, hz, ez, _⟩ := pr_of hp
  have z0 := ln_len prk (wlp z (List.mem_cons_of_mem _ hz))
  rw [← ez, slen] at z0
  rw [addV_str, if_pos (by omega)]
theorem str_p (hp : 2 ≤ p ∧ p ≤ 3) {μ : List Ob} : strD [.int p] μ = .ok (.str (ps p)) μ := by
  have : p = 2 ∨ p = 3 := by omega
  rcases this with rfl | rfl
  · show (if (2 : Int).natAbs.log2 < 1920 then DL.R.ok (D.str (ps 2)) μ else DL.R.bad) = _
    rw [if_pos (by decide)]
  · show (if (3 : Int).natAbs.log2 < 1920 then DL.R.ok (D.str (ps 3)) μ else DL.R.bad) = _
    rw [if_pos (by decide)]
theorem join_words {μ : List Ob} : joinD (.str " ") [.lst (.str "words" :: (W6.filter q).map D.str)] μ = .ok (.str (last (W6.filter q))) μ := by
  have h := strs_map (("words" : Str) :: W6.filter q)
  rw [List.map_cons] at h
  unfold joinD
  simp only [vw_lst, h]
  rw [if_pos (last_okj _ (filt_sub q W6))]
  rfl
theorem join_lines (Q : RuleIs w1 w2 w3 w4 w5 w6) (hp : 2 ≤ p ∧ p ≤ 3) {μ : List Ob} : joinD (.str "\n") [.lst ((lines p w1 w2 w3 w4 w5 w6 (W6.filter q)).map D.str)] μ = .ok (.str (textOf p w1 w2 w3 w4 w5 w6 (W6.filter q))) μ := by
  have h := strs_map (lines p w1 w2 w3 w4 w5 w6 (W6.filter q))
  have l := lines_len (q := q) Q hp
  unfold joinD
  simp only [vw_lst, h]
  rw [if_pos (by omega)]
  rfl
theorem write_ok (a : Ad) {μ : List Ob} (Q : RuleIs w1 w2 w3 w4 w5 w6) (hp : 2 ≤ p ∧ p ≤ 3) : ∃ j, ct_write a [bookD a p (rule6 w1 w2 w3 w4 w5 w6) (wordsD q)] μ = .ok (.str (textOf p w1 w2 w3 w4 w5 w6 (W6.filter q))) (μ ++ j) := by
  refine ⟨[.lst [.str (("prices " : Str) ++ ps p), .str (ln "counts" w1), .str (ln "evening" w2), .str (ln "lost" w3), .str (ln "remembers" w4), .str (ln "search" w5), .str (ln "tells" w6)]], ?_⟩
  have c1 : ∀ (x : Option D) (μ' : List Ob), rLc (rItemsM (rFld a.kBook "terms" (rVar 0))) (.tp [2, 3]) (([("part", 2), ("word", 3)] : List (Str × Nat)).map (·.2)) rYes (rBin addD (rBin addD (rVar 2) (rC (.str " "))) (rVar 3)) [some (bookD a p (rule6 w1 w2 w3 w4 w5 w6) (wordsD q)), x, none, none] μ' =
      .ok (.lst [.str (ln "counts" w1), .str (ln "evening" w2), .str (ln "lost" w3), .str (ln "remembers" w4), .str (ln "search" w5), .str (ln "tells" w6)]) μ' := fun x μ' => by
    have hi : rItemsM (rFld a.kBook "terms" (rVar 0)) [some (bookD a p (rule6 w1 w2 w3 w4 w5 w6) (wordsD q)), x, none, none] μ' = .ok [.tup [.str "counts", .str w1], .tup [.str "evening", .str w2], .tup [.str "lost", .str w3], .tup [.str "remembers", .str w4], .tup [.str "search", .str w5], .tup [.str "tells", .str w6]] μ' := by
      simp [fld_t, rule6, Key.d]
    rw [s_rLc, hi]
    simp [-addV_str, compL, Tg.set, setsD, wipeD, add1 (wlk "counts" (by simp)), add2 (wlk "counts" (by simp)) (wl1 _ Q.m1), add1 (wlk "evening" (by simp)), add2 (wlk "evening" (by simp)) (wl2 _ Q.m2), add1 (wlk "lost" (by simp)), add2 (wlk "lost" (by simp)) (wl3 _ Q.m3), add1 (wlk "remembers" (by simp)), add2 (wlk "remembers" (by simp)) (wl4 _ Q.m4), add1 (wlk "search" (by simp)), add2 (wlk "search" (by simp)) (wl5 _ Q.m5), add1 (wlk "tells" (by simp)), add2 (wlk "tells" (by simp)) (wl6 _ Q.m6)]
  have jl := fun μ' => join_lines (q := q) (μ := μ') Q hp
  have jw := fun μ' => join_words (q := q) (μ := μ')
  unfold ct_write ctOf r_write
  have u1 : rSet 1 (rLstM (rCons (rBin addD (rC (.str "prices ")) (rCB strD (rCons (rFld a.kBook "highest" (rVar 0)) rNil))) rNil)) [some (bookD a p (rule6 w1 w2 w3 w4 w5 w6) (wordsD q)), none, none, none] μ = .nx [some (bookD a p (rule6 w1 w2 w3 w4 w5 w6) (wordsD q)), some (.loc μ.length), none, none] (μ ++ [.lst [.str (("prices " : Str) ++ ps p)]]) := by
    simp [-addV_str, fld_h, str_p hp, pr_add hp]
  have hv : ((D.loc μ.length).view (μ ++ [.lst [.str (("prices " : Str) ++ ps p)]])) = .lst [.str (("prices " : Str) ++ ps p)] := by simp
  have u2 : rDrop (rMt isLst exD (rVar 1) (rCons (rLc (rItemsM (rFld a.kBook "terms" (rVar 0))) (.tp [2, 3]) (([("part", 2), ("word", 3)] : List (Str × Nat)).map (·.2)) rYes (rBin addD (rBin addD (rVar 2) (rC (.str " "))) (rVar 3))) rNil)) [some (bookD a p (rule6 w1 w2 w3 w4 w5 w6) (wordsD q)), some (.loc μ.length), none, none] (μ ++ [.lst [.str (("prices " : Str) ++ ps p)]]) =
      .nx [some (bookD a p (rule6 w1 w2 w3 w4 w5 w6) (wordsD q)), some (.loc μ.length), none, none] (μ ++ [.lst [.str (("prices " : Str) ++ ps p), .str (ln "counts" w1), .str (ln "evening" w2), .str (ln "lost" w3), .str (ln "remembers" w4), .str (ln "search" w5), .str (ln "tells" w6)]]) := by
    rw [s_rDrop, s_rMt, s_rVar]
    simp only [List.getElem?_cons_succ, List.getElem?_cons_zero, R.ok_bind]
    rw [hv, s_rCons, c1]
    simp [isLst, exD]
  have u3 : rRet (rMt isStr joinD (rC (.str "\n")) (rCons (rLst (rStar (rVar 1) (rCons (rMt isStr joinD (rC (.str " ")) (rCons (rLst (rCons (rC (.str "words")) (rStar (rFld a.kBook "kinds" (rVar 0)) rNil))) rNil)) rNil))) rNil)) [some (bookD a p (rule6 w1 w2 w3 w4 w5 w6) (wordsD q)), some (.loc μ.length), none, none] (μ ++ [.lst [.str (("prices " : Str) ++ ps p), .str (ln "counts" w1), .str (ln "evening" w2), .str (ln "lost" w3), .str (ln "remembers" w4), .str (ln "search" w5), .str (ln "tells" w6)]]) =
      .rt (.str (textOf p w1 w2 w3 w4 w5 w6 (W6.filter q))) (μ ++ [.lst [.str (("prices " : Str) ++ ps p), .str (ln "counts" w1), .str (ln "evening" w2), .str (ln "lost" w3), .str (ln "remembers" w4), .str (ln "search" w5), .str (ln "tells" w6)]]) := by
    have hl : (W6.filter q).length ≤ 6 := List.length_filter_le q W6
    have hl' : (List.filter q ["anew", "lose", "number", "pause", "price", "search"]).length ≤ 16777215 := by
      have : (List.filter q W6).length ≤ 6 := hl
      exact Nat.le_trans this (by decide)
    have jl' := jl (μ ++ [.lst [.str (("prices " : Str) ++ ps p), .str (ln "counts" w1), .str (ln "evening" w2), .str (ln "lost" w3), .str (ln "remembers" w4), .str (ln "search" w5), .str (ln "tells" w6)]])
    have jw' := jw (μ ++ [.lst [.str (("prices " : Str) ++ ps p), .str (ln "counts" w1), .str (ln "evening" w2), .str (ln "lost" w3), .str (ln "remembers" w4), .str (ln "search" w5), .str (ln "tells" w6)]])
    unfold lines at jl'
    simp only [List.map_cons, List.map_nil] at jl'
    simp [isStr, fld_k, wordsD, hl', jw', jl']
  show (match (rSeq _ _) [some (bookD a p (rule6 w1 w2 w3 w4 w5 w6) (wordsD q)), none, none, none] μ with
    | .rt d μ1 => DL.R.ok d μ1
    | .nx _ μ1 => .ok .non μ1
    | .exc x _ μ1 => .exc x μ1
    | _ => .bad) = _
  rw [s_rSeq, u1]
  simp only
  rw [s_rSeq, u2]
  simp only
  rw [u3]
end
end L14

namespace L14
open PySem L2 DL
theorem sp0 : ((" " : Str).length == 0) = false := by decide +kernel
theorem line_at_ok (a : Ad) {L : List D} {i : Int} {x : Str} {ys : List Str} {μ : List Ob} (h1 : i < L.length) (h2 : atI L i = some (.str x)) (h3 : Txt.split x " " = ys) (h4 : x.length ≤ 1000) : ct_line_at a [.lst L, .int i] μ = .ok (.lst (ys.map D.str)) μ := by
  have hs : splitD (.str x) [.str " "] μ = .ok (.lst (ys.map D.str)) μ := by
    show (if ((" " : Str).length == 0) = false ∧ x.length + 2 ≤ 16777216 then DL.R.ok (D.lst ((Txt.split x " ").map D.str)) μ else .bad) = _
    rw [if_pos ⟨sp0, by omega⟩, h3]
  have hn : ¬ ((L.length : Int) ≤ i) := by omega
  unfold ct_line_at ctOf r_line_at
  simp [hn, h2, isStr, hs]
theorem ne_str {x : Str} {μ : List Ob} (h : PyData.strOk x = true) : neD (.str x) (.str x) μ = .ok (.bl false) μ := by
  unfold neD
  have e : (D.str x).okd 60 = true := by rw [D.okd]; exact h
  simp only [vw_str, e, Bool.and_self, if_true]
  rw [D.eqb, beq_self_eq_true]
  rfl
theorem in_words {w : Str} {ws : List Str} {μ : List Ob} (h : w ∈ ws) (ho : ∀ x ∈ ws, PyData.strOk x = true) : inD true (.str w) (.tup (ws.map D.str)) μ = .ok (.bl false) μ := by
  rw [inD_tup, if_pos (by rw [D.okd, ho w h, okd_strs 60 ws ho]; rfl), any_str h]
  rfl
theorem word_at_ok (a : Ad) {L : List D} {i : Int} {k w : Str} {ws : List Str} {μ : List Ob} (h1 : i < L.length) (h2 : atI L i = some (.str (ln k w))) (hk : Wl k) (hw : ∀ x ∈ ws, Wl x) (hm : w ∈ ws) : ct_word_at a [.lst L, .int i, .str k, .tup (ws.map D.str)] μ = .ok (.str w) μ := by
  have hl := line_at_ok a (μ := μ) h1 h2 (ln_split hk.sp (hw w hm).sp) (Nat.le_trans (ln_len hk (hw w hm)) (by decide))
  have n1 := ne_str (μ := μ) hk.ok
  have n2 := in_words (μ := μ) hm fun x hx => (hw x hx).ok
  have n3 : neD (.int 2) (.int 2) μ = .ok (.bl false) μ := by simp [neD, D.okd, D.eqb]
  simp only [List.map_cons, List.map_nil] at hl
  unfold ct_word_at ctOf r_word_at
  simp [-inD_tup, hl, n1, n2, n3]
theorem words_at_ok (a : Ad) {L : List D} {i : Int} {q : Str → Bool} {μ : List Ob} (h1 : i < L.length) (h2 : atI L i = some (.str (last (W6.filter q)))) : ct_words_at a [.lst L, .int i] μ = .ok (wordsD q) μ := by
  have hl := line_at_ok a (μ := μ) h1 h2 (last_split fun w hw => (List.mem_filter.mp hw).1) (Nat.le_trans (last_len _ (filt_sub q W6)) (by decide))
  have n1 := ne_str (x := "words") (μ := μ) (wlw _ List.mem_cons_self).ok
  simp only [List.map_cons] at hl
  let δ : Sl := [some (.lst L), some (.int i), some (.lst (.str "words" :: (W6.filter q).map D.str)), none]
  have sl : rSlice (rVar 2) (rSome (rC (.int 1))) rNone δ μ = .ok (.lst ((W6.filter q).map D.str)) μ := by
    show DL.R.ok (D.lst (cutL (.str "words" :: (W6.filter q).map D.str) (some 1) none)) μ = _
    rw [cutL_1]
  have f1 := filt_comp (i := 3) (vs := [3]) (ft := rT (rBin (inD false) (rVar 3) (rSlice (rVar 2) (rSome (rC (.int 1))) rNone))) (δ := δ) (μ := μ) q (fun w hw => by
    have k1 := okd_strs 60 (W6.filter q) (fw_ok q)
    have k2 := w6_ok w hw
    have k3 : ((W6.filter q).map D.str).any (fun z => z.eqb (.str w)) = q w := by
      rw [any_str', Bool.eq_iff_iff, decide_eq_true_iff, List.mem_filter]
      exact ⟨fun h => h.2, fun h => ⟨hw, h⟩⟩
    have sl2 : rSlice (rVar 2) (rSome (rC (.int 1))) rNone ((wipeD δ [3]).set 3 (some (.str w))) μ = .ok (.lst ((W6.filter q).map D.str)) μ := by
      show DL.R.ok (D.lst (cutL (.str "words" :: (W6.filter q).map D.str) (some 1) none)) μ = _
      rw [cutL_1]
    have v3 : rVar 3 ((wipeD δ [3]).set 3 (some (.str w))) μ = .ok (.str w) μ := rfl
    rw [s_rT, s_rBin, v3]
    simp only [R.ok_bind]
    rw [sl2]
    simp only [R.ok_bind, inD_lst, k3]
    rw [if_pos (by rw [D.okd, k2, k1]; rfl)]
    rfl) (fun x => rfl)
  have f2 : rLc (rItems (rC (d_WORDS a))) (.nm 3) (([("word", 3)] : List (Str × Nat)).map (·.2)) (rT (rBin (inD false) (rVar 3) (rSlice (rVar 2) (rSome (rC (.int 1))) rNone))) (rVar 3) δ μ = .ok (.lst ((W6.filter q).map D.str)) μ := by
    show ((compL (.nm 3) [3] _ _ (W6.map D.str) δ μ []).bind fun ys μ2 => DL.R.ok (D.lst ys) μ2) = _
    rw [f1]
    rfl
  have t : rOrT (rT (rBin neD (rBin getD (rVar 2) (rC (.int 0))) (rC (.str "words")))) (rT (rBin neD (rLc (rItems (rC (d_WORDS a))) (.nm 3) (([("word", 3)] : List (Str × Nat)).map (·.2)) (rT (rBin (inD false) (rVar 3) (rSlice (rVar 2) (rSome (rC (.int 1))) rNone))) (rVar 3)) (rSlice (rVar 2) (rSome (rC (.int 1))) rNone))) δ μ = .ok false μ := by
    have c0 : rT (rBin neD (rBin getD (rVar 2) (rC (.int 0))) (rC (.str "words"))) δ μ = .ok false μ := by
      simp [δ, n1]
    rw [s_rOrT, c0]
    simp only [R.ok_bind]
    rw [s_rT, s_rBin, f2]
    simp only [R.ok_bind]
    rw [sl]
    simp only [R.ok_bind]
    rw [ne_same (fw_ok q)]
    rfl
  unfold ct_words_at ctOf r_words_at
  have u1 : rSet 2 (rCall 2 (ct_line_at a) (rCons (rVar 0) (rCons (rVar 1) rNil))) [some (.lst L), some (.int i), none, none] μ = .nx δ μ := by
    simp [δ, hl]
  show (match (rSeq _ _) [some (.lst L), some (.int i), none, none] μ with
    | .rt d μ1 => DL.R.ok d μ1
    | .nx _ μ1 => .ok .non μ1
    | .exc x _ μ1 => .exc x μ1
    | _ => .bad) = _
  rw [s_rSeq, u1]
  simp only
  rw [s_rSeq, s_rIfS, t]
  simp only [R.ok_st]
  rw [s_rRet, s_rCB, s_rCons, sl]
  rfl
end L14

namespace L14
open PySem L2 DL
abbrev bRead (a : Ad) : RS := rSeq (rAsgD (gSt (rVar 2) (rVar 5)) (rCall 4 (ct_word_at a) (rCons (rVar 1) (rCons (rVar 3) (rCons (rVar 5) (rCons (rVar 6) rNil)))))) (rAug 3 (fun i j => i + j) (rC (.int 1)))
theorem read_step (a : Ad) {μ : List Ob} {L : List D} {i : Int} {k w : Str} {ws : List Str} {ks : List Key} {xs : List D} {t pr : D} (h1 : i < L.length) (h2 : atI L i = some (.str (ln k w))) (hk : Wl k) (hw : ∀ x ∈ ws, Wl x) (hm : w ∈ ws) (hl : ks.length < 1000) :
    bRead a [some t, some (.lst L), some (.loc μ.length), some (.int i), some pr, some (.str k), some (.tup (ws.map D.str)), none] (μ ++ [.dct ks xs]) =
      .nx [some t, some (.lst L), some (.loc μ.length), some (.int (i + 1)), some pr, some (.str k), some (.tup (ws.map D.str)), none] (μ ++ [.dct (putKs ks (.inr k)) (putXs ks xs (.inr k) (.str w))]) := by
  have e := word_at_ok a (μ := μ ++ [.dct ks xs]) h1 h2 hk hw hm
  have es := store_d (μ := μ ++ [.dct ks xs]) (d := μ.length) (ks := ks) (xs := xs) (k := k) (x := .str w) (by simp) (by omega)
  have h3 : ∀ x y : Ob, (μ ++ [x]).set μ.length y = μ ++ [y] := fun x y => by simp
  rw [h3] at es
  unfold bRead
  simp [e, es]
theorem joinL_len (S : List Nat) : ∀ ps : List (List Nat), (TL.joinL S ps).length ≤ (ps.map (·.length)).sum + ps.length * S.length
  | [] => by simp [TL.joinL]
  | [p] => by simp [TL.joinL]
  | p :: r :: ps => by
    have ih := joinL_len S (r :: ps)
    rw [TL.joinL, List.length_append, List.length_append, List.map_cons, List.sum_cons, List.length_cons, Nat.succ_mul]
    omega
theorem tl_len (x : Str) : (TL.tl x).length = x.length := Array.length_toList
theorem join_len (y : Str) (ps : List Str) : (Txt.join y ps).length ≤ (ps.map (·.length)).sum + ps.length * y.length := by
  rw [← tl_len, TL.join_eq, TL.tl_join]
  have := joinL_len (TL.tl y) (ps.map TL.tl)
  rw [List.map_map, List.length_map, tl_len] at this
  have e : ((fun x => x.length) ∘ TL.tl : Str → Nat) = fun x => x.length := funext fun x => tl_len x
  rw [e] at this
  exact this
theorem read_ok (a : Ad) {p : Int} {w1 w2 w3 w4 w5 w6 : Str} {q : Str → Bool} {μ : List Ob} (Q : RuleIs w1 w2 w3 w4 w5 w6) (hp : 2 ≤ p ∧ p ≤ 3) : ∃ j, ct_read a [.str (textOf p w1 w2 w3 w4 w5 w6 (W6.filter q))] μ = .ok (bookD a p (rule6 w1 w2 w3 w4 w5 w6) (wordsD q)) (μ ++ j) := by
  refine ⟨[.dead, .dead], ?_⟩
  obtain ⟨z, hz, ez, ei⟩ := pr_of hp
  have hsp := text_split (q := q) Q hp
  have hlen : (textOf p w1 w2 w3 w4 w5 w6 (W6.filter q)).length ≤ 2000 := by
    have := lines_len (q := q) Q hp
    have := join_len "\n" (lines p w1 w2 w3 w4 w5 w6 (W6.filter q))
    unfold textOf
    omega
  have hnl : ((("\n" : Str)).length == 0) = false := by decide +kernel
  have hsplit : ∀ μ' : List Ob, splitD (.str (textOf p w1 w2 w3 w4 w5 w6 (W6.filter q))) [.str "\n"] μ' = .ok (.lst ((lines p w1 w2 w3 w4 w5 w6 (W6.filter q)).map D.str)) μ' := fun μ' => by
    show (if ((("\n" : Str)).length == 0) = false ∧ (textOf p w1 w2 w3 w4 w5 w6 (W6.filter q)).length + 2 ≤ 16777216 then DL.R.ok (D.lst ((Txt.split (textOf p w1 w2 w3 w4 w5 w6 (W6.filter q)) "\n").map D.str)) μ' else .bad) = _
    rw [if_pos ⟨hnl, by omega⟩, hsp]
  generalize htx : textOf p w1 w2 w3 w4 w5 w6 (W6.filter q) = tx at hsplit
  let L : List D := (lines p w1 w2 w3 w4 w5 w6 (W6.filter q)).map D.str
  have hL : L = [.str (ln "prices" z), .str (ln "counts" w1), .str (ln "evening" w2), .str (ln "lost" w3), .str (ln "remembers" w4), .str (ln "search" w5), .str (ln "tells" w6), .str (last (W6.filter q))] := by
    show (lines p w1 w2 w3 w4 w5 w6 (W6.filter q)).map D.str = _
    unfold lines
    rw [ez]
    rfl
  have len8 : (L.length : Int) = 8 := by rw [hL]; rfl
  have a0 : atI L 0 = some (.str (ln "prices" z)) := by rw [hL]; rfl
  have a1 : atI L 1 = some (.str (ln "counts" w1)) := by rw [hL]; rfl
  have a2 : atI L 2 = some (.str (ln "evening" w2)) := by rw [hL]; rfl
  have a3 : atI L 3 = some (.str (ln "lost" w3)) := by rw [hL]; rfl
  have a4 : atI L 4 = some (.str (ln "remembers" w4)) := by rw [hL]; rfl
  have a5 : atI L 5 = some (.str (ln "search" w5)) := by rw [hL]; rfl
  have a6 : atI L 6 = some (.str (ln "tells" w6)) := by rw [hL]; rfl
  have a7 : atI L 7 = some (.str (last (W6.filter q))) := by rw [hL]; rfl
  have wz : ∀ x ∈ (["2", "3"] : List Str), Wl x := fun x hx => wlp x (List.mem_cons_of_mem _ hx)
  have d0 := word_at_ok a (μ := μ ++ [Ob.dct [] []]) (by rw [len8]; decide) a0 prk wz hz
  have hpr : intD [.str z] (μ ++ [Ob.dct [] []]) = .ok (.int p) (μ ++ [Ob.dct [] []]) := by
    have := (wz z hz).len
    show (match PySem.intText? z with | some n => if z.length ≤ 640 then DL.R.ok (D.int n) (μ ++ [Ob.dct [] []]) else .bad | none => .bad) = _
    rw [ei]
    simp only
    rw [if_pos (by omega)]
  have u0 : rPar3 1 2 3 (rCons (rMt isStr splitD (rVar 0) (rCons (rC (.str "\n")) rNil)) (rCons rDnew (rCons (rC (.int 1)) rNil))) [some (.str tx), none, none, none, none, none, none, none] μ = .nx [some (.str tx), some (.lst L), some (.loc μ.length), some (.int 1), none, none, none, none] (μ ++ [.dct [] []]) := by
    simp [isStr, hsplit, L]
  have u1 : rSet 4 (rCB intD (rCons (rCall 4 (ct_word_at a) (rCons (rVar 1) (rCons (rC (.int 0)) (rCons (rC (.str "prices")) (rCons (rC (d_PRICES a)) rNil))))) rNil)) [some (.str tx), some (.lst L), some (.loc μ.length), some (.int 1), none, none, none, none] (μ ++ [.dct [] []]) = .nx [some (.str tx), some (.lst L), some (.loc μ.length), some (.int 1), some (.int p), none, none, none] (μ ++ [.dct [] []]) := by
    have d0' : ct_word_at a [.lst L, .int 0, .str "prices", d_PRICES a] (μ ++ [.dct [] []]) = .ok (.str z) (μ ++ [.dct [] []]) := d0
    simp [d0', hpr]
  have hp6 : pairsP ((kv_PARTS a).map (·.1)) xs_PARTS = [.tup [.str "counts", .tup ((["comes", "fits"] : List Str).map D.str)], .tup [.str "evening", .tup ((["looks", "sends"] : List Str).map D.str)], .tup [.str "lost", .tup ((["again", "noted"] : List Str).map D.str)], .tup [.str "remembers", .tup ((["number", "price", "thing"] : List Str).map D.str)], .tup [.str "search", .tup ((["forgets", "keeps"] : List Str).map D.str)], .tup [.str "tells", .tup ((["evening", "now"] : List Str).map D.str)]] := rfl
  have step : ∀ {i : Int} {k w : Str} {ws : List Str} {ks : List Key} {xs : List D} {o1 o2 : Option D} {r : List D}, ∀ i' : Int, i + 1 = i' → hasK ks (.inr k) = false → i < 8 → atI L i = some (.str (ln k w)) → Wl k → (∀ x ∈ ws, Wl x) → w ∈ ws → ks.length < 1000 →
      forL (.tp [5, 6]) (bRead a) (.tup [.str k, .tup (ws.map D.str)] :: r) [some (.str tx), some (.lst L), some (.loc μ.length), some (.int i), some (.int p), o1, o2, none] (μ ++ [.dct ks xs]) =
        forL (.tp [5, 6]) (bRead a) r [some (.str tx), some (.lst L), some (.loc μ.length), some (.int i'), some (.int p), some (.str k), some (.tup (ws.map D.str)), none] (μ ++ [.dct (ks ++ [.inr k]) (xs ++ [.str w])]) := fun {i k w ws ks xs o1 o2 r} i' ei' hkk hi h2 hk hw hm hl => by
    subst ei'
    have e1 : putKs ks (.inr k) = ks ++ [.inr k] := by unfold putKs; rw [hkk]; rfl
    have e2 : putXs ks xs (.inr k) (.str w) = xs ++ [.str w] := by unfold putXs; rw [hkk]; rfl
    have st := read_step a (μ := μ) (t := .str tx) (pr := .int p) (ks := ks) (xs := xs) (by rw [len8]; exact hi) h2 hk hw hm hl
    rw [e1, e2] at st
    rw [forL]
    show (match bRead a [some (.str tx), some (.lst L), some (.loc μ.length), some (.int i), some (.int p), some (.str k), some (.tup (ws.map D.str)), none] (μ ++ [.dct ks xs]) with
      | .nx δ2 μ2 => forL (.tp [5, 6]) (bRead a) r δ2 μ2
      | .ct δ2 μ2 => forL (.tp [5, 6]) (bRead a) r δ2 μ2
      | .bk δ2 μ2 => .nx δ2 μ2
      | r => r) = _
    rw [st]
  have f : forL (.tp [5, 6]) (bRead a) (pairsP ((kv_PARTS a).map (·.1)) xs_PARTS) [some (.str tx), some (.lst L), some (.loc μ.length), some (.int 1), some (.int p), none, none, none] (μ ++ [.dct [] []]) =
      .nx [some (.str tx), some (.lst L), some (.loc μ.length), some (.int 7), some (.int p), some (.str "tells"), some (.tup ((["evening", "now"] : List Str).map D.str)), none] (μ ++ [.dct K6 [.str w1, .str w2, .str w3, .str w4, .str w5, .str w6]]) := by
    rw [hp6]
    refine (step 2 (by decide) hk1 (by decide) a1 (wlk _ (by simp)) wl1 Q.m1 (by decide)).trans ?_
    refine (step 3 (by decide) hk2 (by decide) a2 (wlk _ (by simp)) wl2 Q.m2 (by decide)).trans ?_
    refine (step 4 (by decide) hk3 (by decide) a3 (wlk _ (by simp)) wl3 Q.m3 (by decide)).trans ?_
    refine (step 5 (by decide) hk4 (by decide) a4 (wlk _ (by simp)) wl4 Q.m4 (by decide)).trans ?_
    refine (step 6 (by decide) hk5 (by decide) a5 (wlk _ (by simp)) wl5 Q.m5 (by decide)).trans ?_
    refine (step 7 (by decide) hk6 (by decide) a6 (wlk _ (by simp)) wl6 Q.m6 (by decide)).trans ?_
    rfl
  let μ2 : List Ob := μ ++ [.dct K6 [.str w1, .str w2, .str w3, .str w4, .str w5, .str w6]]
  have hw := words_at_ok a (q := q) (μ := μ2) (by rw [len8]; decide) a7
  have u2 : rSet 7 (rCall 2 (ct_words_at a) (rCons (rVar 1) (rCons (rVar 3) rNil))) [some (.str tx), some (.lst L), some (.loc μ.length), some (.int 7), some (.int p), some (.str "tells"), some (.tup ((["evening", "now"] : List Str).map D.str)), none] μ2 = .nx [some (.str tx), some (.lst L), some (.loc μ.length), some (.int 7), some (.int p), some (.str "tells"), some (.tup ((["evening", "now"] : List Str).map D.str)), some (wordsD q)] μ2 := by
    simp [hw]
  have u3 : rIfS (rT (rBin gtD (rCB lenD (rCons (rVar 1) rNil)) (rBin addD (rVar 3) (rC (.int 1))))) (fun _ _ => .bad) (fun δ μ => .nx δ μ) [some (.str tx), some (.lst L), some (.loc μ.length), some (.int 7), some (.int p), some (.str "tells"), some (.tup ((["evening", "now"] : List Str).map D.str)), some (wordsD q)] μ2 = .nx [some (.str tx), some (.lst L), some (.loc μ.length), some (.int 7), some (.int p), some (.str "tells"), some (.tup ((["evening", "now"] : List Str).map D.str)), some (wordsD q)] μ2 := by
    simp [len8]
  have u4 := make_ok a (q := q) (δ := [some (.str tx), some (.lst L), some (.loc μ.length), some (.int 7), some (.int p), some (.str "tells"), some (.tup ((["evening", "now"] : List Str).map D.str)), some (wordsD q)]) (μ := μ2) (μ1 := μ ++ [.dead]) (fs := rCons (rVar 4) (rCons (rFrz (rVar 2)) (rCons (rVar 7) rNil))) Q hp (by simp [μ2, rule6])
  unfold ct_read ctOf r_read
  show (match (rSeq _ _) [some (.str tx), none, none, none, none, none, none, none] μ with
    | .rt d μ1 => DL.R.ok d μ1
    | .nx _ μ1 => .ok .non μ1
    | .exc x _ μ1 => .exc x μ1
    | _ => .bad) = _
  rw [s_rSeq, u0]
  simp only
  rw [s_rSeq, u1]
  simp only
  have hP : rP a.cPARTS (pairsP ((kv_PARTS a).map (·.1)) xs_PARTS) (rC (d_PARTS a)) [some (.str tx), some (.lst L), some (.loc μ.length), some (.int 1), some (.int p), none, none, none] (μ ++ [.dct [] []]) = .ok (pairsP ((kv_PARTS a).map (·.1)) xs_PARTS) (μ ++ [.dct [] []]) := if_pos rfl
  rw [s_rSeq, s_rFor, hP]
  simp only [R.ok_st]
  rw [f]
  simp only
  rw [s_rSeq, u2]
  simp only
  rw [s_rSeq, u3]
  simp only
  rw [s_rRet, u4]
  simp
end L14

namespace L14
open PySem L2 DL
theorem ok_iff (x : Str) : PyData.strOk x = true ↔ ∀ c ∈ TL.tl x, c < 0x110000 := by
  unfold PyData.strOk TL.tl
  rw [Array.all_eq_true']
  simp
theorem ok_app {x y : Str} (h1 : PyData.strOk x = true) (h2 : PyData.strOk y = true) : PyData.strOk (x ++ y) = true := by
  rw [ok_iff] at *
  rw [TL.tl_append]
  intro c hc
  rcases List.mem_append.mp hc with h | h
  · exact h1 c h
  · exact h2 c h
theorem joinL_mem {S : List Nat} {c : Nat} : ∀ {ps : List (List Nat)}, c ∈ TL.joinL S ps → c ∈ S ∨ ∃ p ∈ ps, c ∈ p
  | [], h => by simp [TL.joinL] at h
  | [p], h => .inr ⟨p, by simp, by simpa [TL.joinL] using h⟩
  | p :: r :: ps, h => by
    rw [TL.joinL] at h
    rcases List.mem_append.mp h with h | h
    · exact .inr ⟨p, by simp, h⟩
    · rcases List.mem_append.mp h with h | h
      · exact .inl h
      · rcases joinL_mem h with h | ⟨x, hx, h⟩
        · exact .inl h
        · exact .inr ⟨x, List.mem_cons_of_mem _ hx, h⟩
theorem ok_join {y : Str} {ps : List Str} (h1 : PyData.strOk y = true) (h2 : ∀ p ∈ ps, PyData.strOk p = true) : PyData.strOk (Txt.join y ps) = true := by
  rw [ok_iff, TL.join_eq, TL.tl_join]
  intro c hc
  rcases joinL_mem hc with h | ⟨p, hp, h⟩
  · exact (ok_iff y).mp h1 c h
  · obtain ⟨x, hx, rfl⟩ := List.mem_map.mp hp
    exact (ok_iff x).mp (h2 x hx) c h
theorem ok_sp : PyData.strOk " " = true := by decide +kernel
theorem ok_nl : PyData.strOk "\n" = true := by decide +kernel
theorem ok_ln {k w : Str} (h1 : Wl k) (h2 : Wl w) : PyData.strOk (ln k w) = true := ok_app (ok_app h1.ok ok_sp) h2.ok
theorem ok_last {q : Str → Bool} : PyData.strOk (last (W6.filter q)) = true := ok_join ok_sp fun p hp => by
  rcases List.mem_cons.mp hp with rfl | hp
  · exact (wlw _ List.mem_cons_self).ok
  · exact fw_ok q p hp
theorem ok_text {p : Int} {w1 w2 w3 w4 w5 w6 : Str} {q : Str → Bool} (Q : RuleIs w1 w2 w3 w4 w5 w6) (hp : 2 ≤ p ∧ p ≤ 3) : PyData.strOk (textOf p w1 w2 w3 w4 w5 w6 (W6.filter q)) = true := by
  obtain ⟨z, hz, ez, _⟩ := pr_of hp
  unfold textOf
  refine ok_join ok_nl fun l hl => ?_
  unfold lines at hl
  rw [ez] at hl
  simp only [List.mem_cons, List.not_mem_nil, or_false] at hl
  rcases hl with rfl | rfl | rfl | rfl | rfl | rfl | rfl | rfl
  · exact ok_ln prk (wlp z (List.mem_cons_of_mem _ hz))
  · exact ok_ln (wlk _ (by simp)) (wl1 _ Q.m1)
  · exact ok_ln (wlk _ (by simp)) (wl2 _ Q.m2)
  · exact ok_ln (wlk _ (by simp)) (wl3 _ Q.m3)
  · exact ok_ln (wlk _ (by simp)) (wl4 _ Q.m4)
  · exact ok_ln (wlk _ (by simp)) (wl5 _ Q.m5)
  · exact ok_ln (wlk _ (by simp)) (wl6 _ Q.m6)
  · exact ok_last
end L14

namespace L14
open PySem L2 DL
abbrev b2 (a : Ad) : RS := rAsgD (gTp 2 (gCons (gSt (rVar 3) (rC (.int 0))) (gCons (gSt (rVar 3) (rC (.int 2))) gNil))) (rTup (rCons (rBin addD (rC (.int 2)) (rCall 2 (ct__law_next a) (rCons (rVar 1) (rCons (rC (.int 2)) rNil)))) (rCons (rCall 2 (ct__law_words a) (rCons (rVar 1) (rCons (rC (.int 9)) rNil))) rNil)))
abbrev b3 (a : Ad) : RS := rSet 4 (rBin addD (rLst (rCons (rBin addD (rC (.str "prices ")) (rCB strD (rCons (rBin getD (rVar 3) (rC (.int 0))) rNil))) rNil)) (rLc (rItems (fun _ μ => noX (ct__law_parts a [] μ))) (.nm 6) (([("_law_part", 6)] : List (Str × Nat)).map (·.2)) rYes (rBin addD (rBin addD (rBin getD (rVar 6) (rC (.int 0))) (rC (.str " "))) (rBin getD (rBin getD (rVar 3) (rC (.int 1))) (rBin getD (rVar 6) (rC (.int 0)))))))
abbrev b4 (a : Ad) : RS := rSet 5 (rMt isStr joinD (rC (.str "\n")) (rCons (rBin addD (rVar 4) (rLst (rCons (rMt isStr joinD (rC (.str " ")) (rCons (rBin addD (rLst (rCons (rC (.str "words")) rNil)) (rCB (listD false) (rCons (rBin getD (rVar 3) (rC (.int 2))) rNil))) rNil)) rNil))) rNil))
abbrev b5 (a : Ad) : RS := rIfS (rOrT (rT (rBin neD (rCall 1 (ct_write a) (rCons (rCall 1 (ct__law_built a) (rCons (rVar 3) rNil)) rNil)) (rVar 5))) (rOrT (rNotT (rT (rBin (ownD a.kBook (cq_Book a)) (rCall 1 (ct_read a) (rCons (rVar 5) rNil)) (rCall 1 (ct__law_built a) (rCons (rVar 3) rNil))))) (rT (rBin neD (rCall 1 (ct_write a) (rCons (rCall 1 (ct_read a) (rCons (rVar 5) rNil)) rNil)) (rVar 5))))) (rRet (rC (.bl false))) (fun δ μ => .nx δ μ)
section
variable {w1 w2 w3 w4 w5 w6 : Str} {q : Str → Bool} {p : Int}
theorem b2_ok (a : Ad) {μ : List Ob} {n r : Nat} {q0 : Str → Bool} {s o2 o4 o5 o6 : Option D} (L : LH μ 1 0 n) (r1 : r ≠ 1) (r0 : r ≠ 0) (e : μ[r]? = some (.lst [.int 2, rule6 w1 w2 w3 w4 w5 w6, wordsD q0])) : ∃ p q μ', (2 ≤ p ∧ p ≤ 3) ∧
    b2 a [s, some (.loc 1), o2, some (.loc r), o4, o5, o6] μ = .nx [s, some (.loc 1), o2, some (.loc r), o4, o5, o6] μ' ∧ LH μ' 1 0 n ∧ μ'[r]? = some (.lst [.int p, rule6 w1 w2 w3 w4 w5 w6, wordsD q]) := by
  obtain ⟨v, μ1, e1, v0, v1, L1, fr1, _⟩ := draw_next a (cap := 2) L (by decide) (by decide)
  obtain ⟨q, μ2, e2, L2, fr2⟩ := words_ok a (many := 9) L1 (by decide) (by decide)
  have er := (fr1.trans fr2).get r1 r0 e
  have lr := lt_of er
  have as1 : ∀ (o : Ob) (k : Nat), (μ2.set r o)[k]? = if r = k then some o else μ2[k]? := fun o k => at_set lr
  have i0 : ixN 3 0 = some 0 := rfl
  have i2 : ixN 3 2 = some 2 := rfl
  refine ⟨2 + v, q, μ2.set r (.lst [.int (2 + v), rule6 w1 w2 w3 w4 w5 w6, wordsD q]), by omega, ?_, L2.setd r1 r0, by rw [as1, if_pos rfl]⟩
  simp [b2, e1, e2, storeD, er, as1, i0, i2]
theorem b3_ok (a : Ad) {μ : List Ob} {r : Nat} {s o2 o4 o5 o6 : Option D} (Q : RuleIs w1 w2 w3 w4 w5 w6) (hp : 2 ≤ p ∧ p ≤ 3) (e : μ[r]? = some (.lst [.int p, rule6 w1 w2 w3 w4 w5 w6, wordsD q])) : ∃ j,
    b3 a [s, some (.loc 1), o2, some (.loc r), o4, o5, o6] μ = .nx [s, some (.loc 1), o2, some (.loc r), some (.lst [.str (("prices " : Str) ++ ps p), .str (ln "counts" w1), .str (ln "evening" w2), .str (ln "lost" w3), .str (ln "remembers" w4), .str (ln "search" w5), .str (ln "tells" w6)]), o5, o6] (μ ++ j) := by
  obtain ⟨j, ep⟩ := parts_ok a μ
  have ej : (μ ++ j)[r]? = some (.lst [.int p, rule6 w1 w2 w3 w4 w5 w6, wordsD q]) := by rw [List.getElem?_append_left (lt_of e)]; exact e
  refine ⟨j, ?_⟩
  have c1 : rLc (rItems (fun _ μ => noX (ct__law_parts a [] μ))) (.nm 6) (([("_law_part", 6)] : List (Str × Nat)).map (·.2)) rYes (rBin addD (rBin addD (rBin getD (rVar 6) (rC (.int 0))) (rC (.str " "))) (rBin getD (rBin getD (rVar 3) (rC (.int 1))) (rBin getD (rVar 6) (rC (.int 0))))) [s, some (.loc 1), o2, some (.loc r), o4, o5, o6] μ =
      .ok (.lst [.str (ln "counts" w1), .str (ln "evening" w2), .str (ln "lost" w3), .str (ln "remembers" w4), .str (ln "search" w5), .str (ln "tells" w6)]) (μ ++ j) := by
    have hi : rItems (fun _ μ => noX (ct__law_parts a [] μ)) [s, some (.loc 1), o2, some (.loc r), o4, o5, o6] μ = .ok [.lst [.str "counts", .str "comes", .str "fits"], .lst [.str "evening", .str "looks", .str "sends"], .lst [.str "lost", .str "again", .str "noted"], .lst [.str "remembers", .str "number", .str "price", .str "thing"], .lst [.str "search", .str "forgets", .str "keeps"], .lst [.str "tells", .str "evening", .str "now"]] (μ ++ j) := by
      rw [s_rItems, ep]
      rfl
    rw [s_rLc, hi]
    simp [-addV_str, compL, Tg.set, wipeD, ej, rule6, lk0, lk1, lk2, lk3, lk4, lk5, add1 (wlk "counts" (by simp)), add2 (wlk "counts" (by simp)) (wl1 _ Q.m1), add1 (wlk "evening" (by simp)), add2 (wlk "evening" (by simp)) (wl2 _ Q.m2), add1 (wlk "lost" (by simp)), add2 (wlk "lost" (by simp)) (wl3 _ Q.m3), add1 (wlk "remembers" (by simp)), add2 (wlk "remembers" (by simp)) (wl4 _ Q.m4), add1 (wlk "search" (by simp)), add2 (wlk "search" (by simp)) (wl5 _ Q.m5), add1 (wlk "tells" (by simp)), add2 (wlk "tells" (by simp)) (wl6 _ Q.m6)]
  unfold b3
  rw [s_rSet, s_rBin]
  have c0 : rLst (rCons (rBin addD (rC (.str "prices ")) (rCB strD (rCons (rBin getD (rVar 3) (rC (.int 0))) rNil))) rNil) [s, some (.loc 1), o2, some (.loc r), o4, o5, o6] μ = .ok (.lst [.str (("prices " : Str) ++ ps p)]) μ := by
    simp [-addV_str, e, str_p hp, pr_add hp]
  rw [c0]
  simp only [R.ok_bind]
  rw [c1]
  simp
theorem b4_ok (a : Ad) {μ : List Ob} {r : Nat} {s o2 o5 o6 : Option D} (Q : RuleIs w1 w2 w3 w4 w5 w6) (hp : 2 ≤ p ∧ p ≤ 3) (e : μ[r]? = some (.lst [.int p, rule6 w1 w2 w3 w4 w5 w6, wordsD q])) :
    b4 a [s, some (.loc 1), o2, some (.loc r), some (.lst [.str (("prices " : Str) ++ ps p), .str (ln "counts" w1), .str (ln "evening" w2), .str (ln "lost" w3), .str (ln "remembers" w4), .str (ln "search" w5), .str (ln "tells" w6)]), o5, o6] μ =
      .nx [s, some (.loc 1), o2, some (.loc r), some (.lst [.str (("prices " : Str) ++ ps p), .str (ln "counts" w1), .str (ln "evening" w2), .str (ln "lost" w3), .str (ln "remembers" w4), .str (ln "search" w5), .str (ln "tells" w6)]), some (.str (textOf p w1 w2 w3 w4 w5 w6 (W6.filter q))), o6] μ := by
  have hl' : (List.filter q ["anew", "lose", "number", "pause", "price", "search"]).length ≤ 16777215 := by
    have : (List.filter q W6).length ≤ 6 := List.length_filter_le q W6
    exact Nat.le_trans this (by decide)
  have jl := join_lines (q := q) (μ := μ) Q hp
  have jw := join_words (q := q) (μ := μ)
  unfold lines at jl
  simp only [List.map_cons, List.map_nil] at jl
  have hl2 : 1 + (List.filter q ["anew", "lose", "number", "pause", "price", "search"]).length ≤ 16777216 := by omega
  simp [b4, isStr, e, wordsD, hl', hl2, jw, jl]
end
end L14

namespace L14
open PySem L2 DL
section
variable {w1 w2 w3 w4 w5 w6 : Str} {q : Str → Bool} {p : Int}
theorem b5_ok (a : Ad) {μ : List Ob} {r : Nat} {s o2 o4 o6 : Option D} (Q : RuleIs w1 w2 w3 w4 w5 w6) (hp : 2 ≤ p ∧ p ≤ 3) (e : μ[r]? = some (.lst [.int p, rule6 w1 w2 w3 w4 w5 w6, wordsD q])) : ∃ j,
    b5 a [s, some (.loc 1), o2, some (.loc r), o4, some (.str (textOf p w1 w2 w3 w4 w5 w6 (W6.filter q))), o6] μ = .nx [s, some (.loc 1), o2, some (.loc r), o4, some (.str (textOf p w1 w2 w3 w4 w5 w6 (W6.filter q))), o6] (μ ++ j) := by
  generalize hδ : ([s, some (.loc 1), o2, some (.loc r), o4, some (.str (textOf p w1 w2 w3 w4 w5 w6 (W6.filter q))), o6] : Sl) = δ
  have v3 : ∀ μ', rVar 3 δ μ' = .ok (.loc r) μ' := fun μ' => by rw [← hδ]; rfl
  have v5 : ∀ μ', rVar 5 δ μ' = .ok (.str (textOf p w1 w2 w3 w4 w5 w6 (W6.filter q))) μ' := fun μ' => by rw [← hδ]; rfl
  have ap : ∀ j, (μ ++ j)[r]? = some (.lst [.int p, rule6 w1 w2 w3 w4 w5 w6, wordsD q]) := fun j => by rw [List.getElem?_append_left (lt_of e)]; exact e
  have nt : ∀ μ', neD (.str (textOf p w1 w2 w3 w4 w5 w6 (W6.filter q))) (.str (textOf p w1 w2 w3 w4 w5 w6 (W6.filter q))) μ' = .ok (.bl false) μ' := fun μ' => ne_str (ok_text Q hp)
  have bu : ∀ j, rCall 1 (ct__law_built a) (rCons (rVar 3) rNil) δ (μ ++ j) = .ok (bookD a p (rule6 w1 w2 w3 w4 w5 w6) (wordsD q)) (μ ++ j ++ [.dead]) := fun j => by
    have h := built_ok a (μ := μ ++ j) Q hp (ap j)
    simp only [s_rCall, s_rCons, s_rNil, v3, R.ok_bind, List.length_cons, List.length_nil]
    simpa using h
  have rd : ∀ j, ∃ j', rCall 1 (ct_read a) (rCons (rVar 5) rNil) δ (μ ++ j) = .ok (bookD a p (rule6 w1 w2 w3 w4 w5 w6) (wordsD q)) (μ ++ j ++ j') := fun j => by
    obtain ⟨j', h⟩ := read_ok a (q := q) (μ := μ ++ j) Q hp
    exact ⟨j', by simp only [s_rCall, s_rCons, s_rNil, v5, R.ok_bind, List.length_cons, List.length_nil]; simpa using h⟩
  obtain ⟨k1, t1⟩ := write_ok a (q := q) (μ := μ ++ [.dead]) Q hp
  have c1 : rT (rBin neD (rCall 1 (ct_write a) (rCons (rCall 1 (ct__law_built a) (rCons (rVar 3) rNil)) rNil)) (rVar 5)) δ μ = .ok false (μ ++ ([.dead] ++ k1)) := by
    have b0 := bu []
    simp only [List.append_nil] at b0
    rw [s_rT, s_rBin, s_rCall, s_rCons, b0]
    simp only [R.ok_bind, s_rNil, List.length_cons, List.length_nil, if_true]
    rw [t1]
    simp only [R.ok_bind]
    rw [v5]
    simp only [R.ok_bind]
    rw [nt, List.append_assoc]
    rfl
  obtain ⟨k2, r2⟩ := rd ([.dead] ++ k1)
  have c2 : rNotT (rT (rBin (ownD a.kBook (cq_Book a)) (rCall 1 (ct_read a) (rCons (rVar 5) rNil)) (rCall 1 (ct__law_built a) (rCons (rVar 3) rNil)))) δ (μ ++ ([.dead] ++ k1)) = .ok false (μ ++ ([.dead] ++ k1 ++ k2 ++ [.dead])) := by
    have b2' := bu ([.dead] ++ k1 ++ k2)
    have hq := eq_ok a (p := p) (w1 := w1) (w2 := w2) (w3 := w3) (w4 := w4) (w5 := w5) (w6 := w6) (q := q) (μ := μ ++ ([.dead] ++ k1 ++ k2 ++ [.dead]))
    rw [s_rNotT, s_rT, s_rBin, r2]
    simp only [R.ok_bind]
    have e1 : μ ++ ([Ob.dead] ++ k1) ++ k2 = μ ++ ([.dead] ++ k1 ++ k2) := by simp
    rw [e1, b2']
    have e2 : μ ++ ([Ob.dead] ++ k1 ++ k2) ++ [.dead] = μ ++ ([.dead] ++ k1 ++ k2 ++ [.dead]) := by simp
    rw [e2]
    simp only [R.ok_bind]
    have ho : ownD a.kBook (cq_Book a) (bookD a p (rule6 w1 w2 w3 w4 w5 w6) (wordsD q)) (bookD a p (rule6 w1 w2 w3 w4 w5 w6) (wordsD q)) (μ ++ ([.dead] ++ k1 ++ k2 ++ [.dead])) = .ok (.bl true) (μ ++ ([.dead] ++ k1 ++ k2 ++ [.dead])) := by
      unfold ownD
      have hv : (bookD a p (rule6 w1 w2 w3 w4 w5 w6) (wordsD q)).view (μ ++ ([.dead] ++ k1 ++ k2 ++ [.dead])) = .ins a.kBook F3 [.int p, rule6 w1 w2 w3 w4 w5 w6, wordsD q] := rfl
      rw [hv]
      simp only [and_self, if_true]
      rw [hq]
    rw [ho]
    rfl
  obtain ⟨k3, r3⟩ := rd ([.dead] ++ k1 ++ k2 ++ [.dead])
  obtain ⟨k4, t4⟩ := write_ok a (q := q) (μ := μ ++ ([.dead] ++ k1 ++ k2 ++ [.dead]) ++ k3) Q hp
  have c3 : rT (rBin neD (rCall 1 (ct_write a) (rCons (rCall 1 (ct_read a) (rCons (rVar 5) rNil)) rNil)) (rVar 5)) δ (μ ++ ([.dead] ++ k1 ++ k2 ++ [.dead])) = .ok false (μ ++ ([.dead] ++ k1 ++ k2 ++ [.dead] ++ k3 ++ k4)) := by
    rw [s_rT, s_rBin, s_rCall, s_rCons, r3]
    simp only [R.ok_bind, s_rNil, List.length_cons, List.length_nil, if_true]
    rw [t4]
    simp only [R.ok_bind]
    rw [v5]
    simp only [R.ok_bind]
    rw [nt]
    simp
  refine ⟨[.dead] ++ k1 ++ k2 ++ [.dead] ++ k3 ++ k4, ?_⟩
  unfold b5
  rw [s_rIfS, s_rOrT, c1]
  simp only [R.ok_bind]
  rw [s_rOrT, c2]
  simp only [R.ok_bind]
  rw [c3]
  rfl
end
abbrev bTurn (a : Ad) : RS := rSeq (rSet 3 (rCall 1 (ct__law_draw a) (rCons (rVar 1) rNil))) (rSeq (b2 a) (rSeq (b3 a) (rSeq (b4 a) (b5 a))))
theorem turn_ok (a : Ad) {μ : List Ob} {n : Nat} {s o2 o3 o4 o5 o6 : Option D} (L : LH μ 1 0 n) : ∃ o3' o4' o5' μ', bTurn a [s, some (.loc 1), o2, o3, o4, o5, o6] μ = .nx [s, some (.loc 1), o2, o3', o4', o5', o6] μ' ∧ LH μ' 1 0 n := by
  obtain ⟨w1, w2, w3, w4, w5, w6, q0, μ1, Q, e1, L1, fr1⟩ := draw_ok a L
  obtain ⟨_, _, _, g1, g2, _, _⟩ := L1.ex
  have l1 := lt_of g1
  have l0 := lt_of g2
  obtain ⟨p, q, μ2, hp, e2, L2, er⟩ := b2_ok a (s := s) (o2 := o2) (o4 := o4) (o5 := o5) (o6 := o6) (w1 := w1) (w2 := w2) (w3 := w3) (w4 := w4) (w5 := w5) (w6 := w6) (q0 := q0) (r := μ1.length) (L1.app [.lst [.int 2, rule6 w1 w2 w3 w4 w5 w6, wordsD q0]]) (by omega) (by omega) (by simp)
  obtain ⟨j3, e3⟩ := b3_ok a (s := s) (o2 := o2) (o4 := o4) (o5 := o5) (o6 := o6) Q hp er
  have er3 : (μ2 ++ j3)[μ1.length]? = some (.lst [.int p, rule6 w1 w2 w3 w4 w5 w6, wordsD q]) := by rw [List.getElem?_append_left (lt_of er)]; exact er
  have e4 := b4_ok a (s := s) (o2 := o2) (o5 := o5) (o6 := o6) Q hp er3
  obtain ⟨j5, e5⟩ := b5_ok a (s := s) (o2 := o2) (o4 := some (.lst [.str (("prices " : Str) ++ ps p), .str (ln "counts" w1), .str (ln "evening" w2), .str (ln "lost" w3), .str (ln "remembers" w4), .str (ln "search" w5), .str (ln "tells" w6)])) (o6 := o6) Q hp er3
  refine ⟨some (.loc μ1.length), some (.lst [.str (("prices " : Str) ++ ps p), .str (ln "counts" w1), .str (ln "evening" w2), .str (ln "lost" w3), .str (ln "remembers" w4), .str (ln "search" w5), .str (ln "tells" w6)]), some (.str (textOf p w1 w2 w3 w4 w5 w6 (W6.filter q))), μ2 ++ j3 ++ j5, ?_, (L2.app _).app _⟩
  have u1 : rSet 3 (rCall 1 (ct__law_draw a) (rCons (rVar 1) rNil)) [s, some (.loc 1), o2, o3, o4, o5, o6] μ = .nx [s, some (.loc 1), o2, some (.loc μ1.length), o4, o5, o6] (μ1 ++ [.lst [.int 2, rule6 w1 w2 w3 w4 w5 w6, wordsD q0]]) := by
    simp [e1]
  unfold bTurn
  rw [s_rSeq, u1]
  simp only
  rw [s_rSeq, e2]
  simp only
  rw [s_rSeq, e3]
  simp only
  rw [s_rSeq, e4]
  simp only
  rw [e5]
theorem turns_ok (a : Ad) {n : Nat} {s : Option D} : ∀ (ds : List D) (o2 o3 o4 o5 o6 : Option D) (μ : List Ob), LH μ 1 0 n → ∃ δ' μ', forL (.nm 2) (bTurn a) ds [s, some (.loc 1), o2, o3, o4, o5, o6] μ = .nx δ' μ'
  | [], o2, o3, o4, o5, o6, μ, L => ⟨_, _, rfl⟩
  | d :: ds, o2, o3, o4, o5, o6, μ, L => by
    obtain ⟨o3', o4', o5', μ1, e1, L1⟩ := turn_ok a (s := s) (o2 := some d) (o3 := o3) (o4 := o4) (o5 := o5) (o6 := o6) L
    obtain ⟨δ', μ', e2⟩ := turns_ok a (s := s) ds (some d) o3' o4' o5' o6 μ1 L1
    refine ⟨δ', μ', ?_⟩
    rw [forL]
    show (match bTurn a [s, some (.loc 1), some d, o3, o4, o5, o6] μ with
      | .nx δ2 μ2 => forL (.nm 2) (bTurn a) ds δ2 μ2
      | .ct δ2 μ2 => forL (.nm 2) (bTurn a) ds δ2 μ2
      | .bk δ2 μ2 => .nx δ2 μ2
      | r => r) = _
    rw [e1]
    exact e2
theorem law_true (a : Ad) (ns : List Int) (h : ns.length ≤ 63) : ∃ μ, ct_law a [.frl (ns.map D.int)] [] = .ok (.bl true) μ := by
  obtain ⟨st, e1⟩ := mix_ok a ns 14
  have L : LH [.lst (ns.map D.int), .lst [.int st, .loc 0, .int 0]] 1 0 ns.length := ⟨by decide, st, 0, ns, rfl, rfl, rfl, h⟩
  obtain ⟨δ', μ', e2⟩ := turns_ok a (s := some (.frl (ns.map D.int))) (DL.upTo 0 12) none none none none none _ L
  refine ⟨μ', ?_⟩
  unfold ct_law ctOf r_law
  have u1 : rSet 1 (rCall 2 (ct__law_mix a) (rCons (rVar 0) (rCons (rC (.int 14)) rNil))) [some (.frl (ns.map D.int)), none, none, none, none, none, none] [] = .nx [some (.frl (ns.map D.int)), some (.loc 1), none, none, none, none, none] [.lst (ns.map D.int), .lst [.int st, .loc 0, .int 0]] := by
    simp [e1]
  show (match (rSeq _ (rSeq (rFor _ _ (bTurn a)) _)) [some (.frl (ns.map D.int)), none, none, none, none, none, none] [] with
    | .rt d μ1 => DL.R.ok d μ1
    | .nx _ μ1 => .ok .non μ1
    | .exc x _ μ1 => .exc x μ1
    | _ => .bad) = _
  rw [s_rSeq, u1]
  simp only
  have hr : rRange1 (rCons (rC (.int 12)) rNil) [some (.frl (ns.map D.int)), some (.loc 1), none, none, none, none, none] [.lst (ns.map D.int), .lst [.int st, .loc 0, .int 0]] = .ok (DL.upTo 0 12) [.lst (ns.map D.int), .lst [.int st, .loc 0, .int 0]] := by
    simp
  rw [s_rSeq, s_rFor, hr]
  simp only [R.ok_st]
  rw [e2]
  rfl
end L14

namespace L14
open PySem L2 DL
theorem walk {l : PySem.W.OpenLaw} {q : Program} {loose : List Str} {XP : (Str → Option Value) → Heap → Prop} {YP : World → Heap → Prop} {d : DefRec} {K : Params → PySem.W.Frag} (hn : l.most = some 63) (hdf : d.params.defaults = [])
    (hY : ∀ (w : World) (h : Heap), YP w h → (K w.params).In h)
    (F : ∀ (w : World) (mg : Str → Option Value) (fa : Addr) (h : Heap), (K w.params).In h → h.Ns mainGlobals mg → mg d.name = some (.ref fa) →
      ∃ (a : Ad) (fd : FuncData), (∀ (s : Shared) (u : Value), BindsTo s fd ⟨[u], []⟩ [("_law_script", u)]) ∧ ∀ base : Heap, (K w.params).In base → base.Ns mainGlobals mg → FnOk l.prog w (K w.params) mg base (L2.CX l.prog w) 6 fa fd ["_law_script"] (spD (K w.params) 1 (ct_law a)))
    (m : ∀ (a : Ad) (ns : List Int), ns.length ≤ 63 → ∃ μ, ct_law a [.frl (ns.map D.int)] [] = .ok (.bl true) μ) :
    PySem.W.WalkO q loose XP YP l.row.toRowW d [] (fun f vs => PySem.call f vs) :=
  L2.walk_of (n := 63) (k := 6) (x := "_law_script") (CX := fun w => L2.CX l.prog w) (sp := fun w => spLaw (K w.params)) hn (by decide) hdf ⟨rfl, by decide, by decide⟩ hY
    (fun w mg fa h X G e => let ⟨a, fd, h1, h2⟩ := F w mg fa h X G e; ⟨fd, h1, fun base b1 b2 => DL.spd_of (h2 base b1 b2) (m a)⟩)
    (fun _ _ a ns hl _ hS => ⟨a, ns, rfl, hS, hl, fun _ => rfl⟩) fun _ _ _ _ _ z => by
      obtain ⟨_, _, _, _, _, _, _, _, _, _, _, _, z⟩ := z
      exact z.elim
end L14
open PySem PySem.W PyProof.Rows
set_option maxRecDepth 100000 in
set_option maxHeartbeats 0 in
theorem PySem.Challenge.cw_findstold_k14_whole_texts_holds : PySem.Challenge.rw_findstold_k14_whole_texts.Holds := by
  w_on; o_law; k_head; (case hw => w_witness2)
  k_fill
  refine L14.walk (l := PySem.Challenge.rw_findstold_k14_whole_texts) rfl rfl (fun w h Y => PySem.W.kIn_of Y) ?F L14.law_true
  case F =>
    intro w mg fa h KX G hmg
    refine' L14.all_mk KX G hmg ?gkBook ?a0 ?l0 ?c0 ?k0 ?a1 ?l1 ?c1 ?k1 ?a2 ?l2 ?c2 ?k2 ?a3 ?i3 ?l3 ?c3 ?k3 ?a4 ?i4 ?l4 ?c4 ?k4 ?a5 ?l5 ?c5 ?k5 ?a6 ?l6 ?c6 ?k6 ?a7 ?l7 ?c7 ?k7 ?a8 ?l8 ?c8 ?k8 ?a9 ?l9 ?c9 ?k9 ?a10 ?l10 ?c10 ?k10 ?a11 ?l11 ?c11 ?k11 ?a12 ?l12 ?c12 ?k12 ?a13 ?l13 ?c13 ?k13 ?a14 ?l14 ?c14 ?k14 ?a15 ?l15 ?c15 ?k15 ?a16 ?l16 ?c16 ?k16 ?a17 ?l17 ?c17 ?k17 ?a18 ?l18 ?c18 ?k18 ?pgBook ?hdBook ?poBook ?saBook ?mkBook ?kcBook ?g_PARTS ?ldPARTS ?kkPARTS ?loPARTS ?enPARTS ?ltPARTS_0 ?szPARTS_0 ?vlPARTS_0 ?ltPARTS_1 ?szPARTS_1 ?vlPARTS_1 ?ltPARTS_2 ?szPARTS_2 ?vlPARTS_2 ?ltPARTS_3 ?szPARTS_3 ?vlPARTS_3 ?ltPARTS_4 ?szPARTS_4 ?vlPARTS_4 ?ltPARTS_5 ?szPARTS_5 ?vlPARTS_5 ?ltPRICES ?szPRICES ?vlPRICES ?g_PRICES ?ltWORDS ?szWORDS ?vlWORDS ?g_WORDS ?n_all ?n_bool ?n_dict ?n_int ?n_isinstance ?n_len ?n_list ?n_max ?n_range ?n_str ?n_tuple ?at_Book_highest ?at_Book_kinds ?at_Book_terms ?haBook ?hnBook ?htBook ?hmBook
    (case gkBook => k_is)
    (case g_WORDS => k_is)
    (case g_PRICES => k_is)
    (case a0 => k_is)
    (case l0 => k_is)
    (case c0 => k_is)
    (case k0 => k_is)
    (case a1 => k_is)
    (case l1 => k_is)
    (case c1 => k_is)
    (case k1 => k_is)
    (case a2 => k_is)
    (case l2 => k_is)
    (case c2 => k_is)
    (case k2 => k_is)
    (case a3 => k_is)
    (case i3 => k_is)
    (case l3 => k_is)
    (case c3 => k_is)
    (case k3 => k_is)
    (case a4 => k_is)
    (case i4 => k_is)
    (case l4 => k_is)
    (case c4 => k_is)
    (case k4 => k_is)
    (case a5 => k_is)
    (case l5 => k_is)
    (case c5 => k_is)
    (case k5 => k_is)
    (case a6 => k_is)
    (case l6 => k_is)
    (case c6 => k_is)
    (case k6 => k_is)
    (case a7 => k_is)
    (case l7 => k_is)
    (case c7 => k_is)
    (case k7 => k_is)
    (case a8 => k_is)
    (case l8 => k_is)
    (case c8 => k_is)
    (case k8 => k_is)
    (case a9 => k_is)
    (case l9 => k_is)
    (case c9 => k_is)
    (case k9 => k_is)
    (case a10 => k_is)
    (case l10 => k_is)
    (case c10 => k_is)
    (case k10 => k_is)
    (case a11 => k_is)
    (case l11 => k_is)
    (case c11 => k_is)
    (case k11 => k_is)
    (case a12 => k_is)
    (case l12 => k_is)
    (case c12 => k_is)
    (case k12 => k_is)
    (case a13 => k_is)
    (case l13 => k_is)
    (case c13 => k_is)
    (case k13 => k_is)
    (case a14 => k_is)
    (case l14 => k_is)
    (case c14 => k_is)
    (case k14 => k_is)
    (case a15 => k_is)
    (case l15 => k_is)
    (case c15 => k_is)
    (case k15 => k_is)
    (case a16 => k_is)
    (case l16 => k_is)
    (case c16 => k_is)
    (case k16 => k_is)
    (case a17 => k_is)
    (case l17 => k_is)
    (case c17 => k_is)
    (case k17 => k_is)
    (case a18 => k_is)
    (case l18 => k_is)
    (case c18 => k_is)
    (case k18 => k_is)
    (case pgBook => k_is)
    (case hdBook => k_is)
    (case poBook => k_is)
    (case saBook => k_is)
    (case mkBook => k_is)
    (case kcBook => k_is)
    (case g_PARTS => k_is)
    (case ldPARTS => k_is)
    (case kkPARTS => k_keys)
    (case loPARTS => decide)
    (case enPARTS => exact .cons ⟨⟨_, _, rfl, rfl⟩, rfl⟩ (.cons ⟨⟨_, _, rfl, rfl⟩, rfl⟩ (.cons ⟨⟨_, _, rfl, rfl⟩, rfl⟩ (.cons ⟨⟨_, _, rfl, rfl⟩, rfl⟩ (.cons ⟨⟨_, _, rfl, rfl⟩, rfl⟩ (.cons ⟨⟨_, _, rfl, rfl⟩, rfl⟩ (.nil)))))))
    (case ltPARTS_0 => k_is)
    (case szPARTS_0 => decide)
    (case vlPARTS_0 => exact .cons ⟨_, rfl⟩ (.cons ⟨_, rfl⟩ (.nil)))
    (case ltPARTS_1 => k_is)
    (case szPARTS_1 => decide)
    (case vlPARTS_1 => exact .cons ⟨_, rfl⟩ (.cons ⟨_, rfl⟩ (.nil)))
    (case ltPARTS_2 => k_is)
    (case szPARTS_2 => decide)
    (case vlPARTS_2 => exact .cons ⟨_, rfl⟩ (.cons ⟨_, rfl⟩ (.nil)))
    (case ltPARTS_3 => k_is)
    (case szPARTS_3 => decide)
    (case vlPARTS_3 => exact .cons ⟨_, rfl⟩ (.cons ⟨_, rfl⟩ (.cons ⟨_, rfl⟩ (.nil))))
    (case ltPARTS_4 => k_is)
    (case szPARTS_4 => decide)
    (case vlPARTS_4 => exact .cons ⟨_, rfl⟩ (.cons ⟨_, rfl⟩ (.nil)))
    (case ltPARTS_5 => k_is)
    (case szPARTS_5 => decide)
    (case vlPARTS_5 => exact .cons ⟨_, rfl⟩ (.cons ⟨_, rfl⟩ (.nil)))
    (case ltPRICES => k_is)
    (case szPRICES => decide)
    (case vlPRICES => exact .cons ⟨_, rfl⟩ (.cons ⟨_, rfl⟩ (.nil)))
    (case ltWORDS => k_is)
    (case szWORDS => decide)
    (case vlWORDS => exact .cons ⟨_, rfl⟩ (.cons ⟨_, rfl⟩ (.cons ⟨_, rfl⟩ (.cons ⟨_, rfl⟩ (.cons ⟨_, rfl⟩ (.cons ⟨_, rfl⟩ (.nil)))))))
    (case n_all => k_is)
    (case n_bool => k_is)
    (case n_dict => k_is)
    (case n_int => k_is)
    (case n_isinstance => k_is)
    (case n_len => k_is)
    (case n_list => k_is)
    (case n_max => k_is)
    (case n_range => k_is)
    (case n_str => k_is)
    (case n_tuple => k_is)
    (case at_Book_highest => k_is)
    (case at_Book_kinds => k_is)
    (case at_Book_terms => k_is)
    (case haBook => k_is)
    (case hnBook => k_is)
    (case htBook => k_is)
    (case hmBook => k_is)

