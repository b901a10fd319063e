import PyProof.Rows.All
import PySem.Challenge.RW_curtaintime_k52_whole_takings_of_nights
import Wide.All
import OpenK.AllK
import Wide.FinOn
import HandS.ForMost
import HandS.Deep
import HandS.Wide
import HandS.AnyAll
import HandS.EndTab
import KE.DataMinMax
import KE.SortData
import KE.DataAny
import KE.DataEq
import KE.DataFind
import KE.DataIsa
import HandS.TupAny
import HandS.TupLe
import HandS.Style
import PyProof.SumAny
import HandS.IsInst
import HandS.TryOnly
import HandS.Small
import HandS.TupMul
import HandS.GenList
import HandS.Conv
import HandS.Rev
import HandS.Zip
import KE.KRevSl
import KE.KDictPairs
import KE.GoesEnum
import HandS.Strs
import KE.KRevIter
import KE.KDictList
import HandS.Codes
import KE.KStar
import KE.DatumOrd
import PyProof.TupleOfGen
import HandS.HotCalls
import HandS.ExcIs
import PyProof.Rows.TupIter
set_option Elab.async false
set_option linter.all false
set_option maxRecDepth 100000
/-! VL: what a Python text does, by values: a def's meaning as a plain Lean function over data. -/
namespace VL
open PySem PySem.Spec PyProof.Rows L2


/-- a key as data -/
def keyP : Key → PyData
  | .inl i => .int i
  | .inr x => .str x
def keyT (l : List Key) : PyData := .tuple (l.map keyP)

/-- a value v stands for d; F: what never changes any more -/
inductive Has (K : PySem.W.Frag) (F : Hp) : PyData → V → Prop
  | non : Has K F .none .non
  | bl (b : Bool) : Has K F (.bool b) (.bl b)
  | int (i : Int) : Has K F (.int i) (.int i)
  | str (x : Str) : Has K F (.str x) (.str x)
  | tup {a : Addr} {xs : List V} {ds : List PyData} : F a = some (.tup xs) → xs.length = ds.length → (∀ (i : Nat) d v, ds[i]? = some d → xs[i]? = some v → Has K F d v) → Has K F (.tuple ds) (.ref a)
  | lst {a : Addr} {xs : List V} {ds : List PyData} : SqL K F a xs → xs.length = ds.length → (∀ (i : Nat) d v, ds[i]? = some d → xs[i]? = some v → Has K F d v) → Has K F (.list ds) (.ref a)
  | dK {a : Addr} {xs : List (Key × V)} {ds : List (PyData × PyData)} : Rd F a (.dK xs) → ds.map (·.1) = xs.map (fun p => keyP p.1) → (∀ (i : Nat) d v, ds[i]? = some d → xs[i]? = some v → Has K F d.2 v.2) → Has K F (.dict ds) (.ref a)
  | dT {a : Addr} {xs : List (List Key × V)} {ds : List (PyData × PyData)} : Rd F a (.dT xs) → ds.map (·.1) = xs.map (fun p => keyT p.1) → (∀ (i : Nat) d v, ds[i]? = some d → xs[i]? = some v → Has K F d.2 v.2) → Has K F (.dict ds) (.ref a)

/-- many values -/
def HasL (K : PySem.W.Frag) (F : Hp) (ds : List PyData) (xs : List V) : Prop := xs.length = ds.length ∧ ∀ (i : Nat) d v, ds[i]? = some d → xs[i]? = some v → Has K F d v
section
variable {K : PySem.W.Frag} {F F' : Hp}
theorem HasL.nil : HasL K F [] [] := ⟨rfl, fun i d v h => by simp at h⟩
theorem HasL.cons {d : PyData} {ds : List PyData} {v : V} {xs : List V} (h : Has K F d v) (t : HasL K F ds xs) : HasL K F (d :: ds) (v :: xs) := by
  refine ⟨by simp [t.1], fun i e w he hw => ?_⟩
  cases i with
  | zero => simp at he hw; subst he; subst hw; exact h
  | succ i => exact t.2 i e w (by simpa using he) (by simpa using hw)
theorem HasL.uncons {d : PyData} {ds : List PyData} {xs : List V} (t : HasL K F (d :: ds) xs) : ∃ v r, xs = v :: r ∧ Has K F d v ∧ HasL K F ds r := by
  cases xs with
  | nil => exact absurd t.1 (by simp)
  | cons v r => exact ⟨v, r, rfl, t.2 0 d v rfl rfl, by simpa using t.1, fun i e w he hw => t.2 (i + 1) e w (by simpa using he) (by simpa using hw)⟩
theorem HasL.nil_inv {xs : List V} (t : HasL K F [] xs) : xs = [] := List.eq_nil_of_length_eq_zero t.1
theorem HasL.get {ds : List PyData} {xs : List V} (t : HasL K F ds xs) {i : Nat} {d : PyData} (h : ds[i]? = some d) : ∃ v, xs[i]? = some v ∧ Has K F d v := by
  obtain ⟨hi, _⟩ := List.getElem?_eq_some_iff.mp h
  have hx : i < xs.length := by rw [t.1]; exact hi
  exact ⟨xs[i], List.getElem?_eq_getElem hx, t.2 i d _ h (List.getElem?_eq_getElem hx)⟩
theorem HasL.getV {ds : List PyData} {xs : List V} (t : HasL K F ds xs) {i : Nat} {v : V} (h : xs[i]? = some v) : ∃ d, ds[i]? = some d ∧ Has K F d v := by
  obtain ⟨hi, _⟩ := List.getElem?_eq_some_iff.mp h
  have hx : i < ds.length := by rw [← t.1]; exact hi
  exact ⟨ds[i], List.getElem?_eq_getElem hx, t.2 i _ v (List.getElem?_eq_getElem hx) h⟩
theorem HasL.append {ds es : List PyData} {xs ys : List V} (a : HasL K F ds xs) (b : HasL K F es ys) : HasL K F (ds ++ es) (xs ++ ys) := by
  refine ⟨by simp [a.1, b.1], fun i d v hd hv => ?_⟩
  by_cases hi : i < ds.length
  · rw [List.getElem?_append_left hi] at hd
    rw [List.getElem?_append_left (by rw [a.1]; exact hi)] at hv
    exact a.2 i d v hd hv
  · rw [List.getElem?_append_right (by omega)] at hd
    rw [List.getElem?_append_right (by rw [a.1]; omega), a.1] at hv
    exact b.2 _ d v hd hv
theorem HasL.take {ds : List PyData} {xs : List V} (a : HasL K F ds xs) (n : Nat) : HasL K F (ds.take n) (xs.take n) := by
  refine ⟨by simp [a.1], fun i d v hd hv => ?_⟩
  rw [List.getElem?_take] at hd hv
  split at hd
  · rename_i h; rw [if_pos h] at hv; exact a.2 i d v hd hv
  · cases hd
theorem HasL.drop {ds : List PyData} {xs : List V} (a : HasL K F ds xs) (n : Nat) : HasL K F (ds.drop n) (xs.drop n) := by
  refine ⟨by simp [a.1], fun i d v hd hv => ?_⟩
  rw [List.getElem?_drop] at hd hv
  exact a.2 _ d v hd hv
theorem HasL.reverse {ds : List PyData} {xs : List V} (a : HasL K F ds xs) : HasL K F ds.reverse xs.reverse := by
  refine ⟨by simp [a.1], fun i d v hd hv => ?_⟩
  obtain ⟨h1, e1⟩ := List.getElem?_eq_some_iff.mp hd
  obtain ⟨h2, e2⟩ := List.getElem?_eq_some_iff.mp hv
  rw [List.getElem_reverse] at e1 e2
  have h3 : i < ds.length := by simpa using h1
  have h4 : i < xs.length := by simpa using h2
  refine a.2 (ds.length - 1 - i) d v ?_ ?_
  · rw [List.getElem?_eq_getElem (by omega), e1]
  · have e : ds.length - 1 - i = xs.length - 1 - i := by rw [a.1]
    rw [e, List.getElem?_eq_getElem (by omega), e2]
theorem HasL.set {ds : List PyData} {xs : List V} (a : HasL K F ds xs) {d : PyData} {v : V} (h : Has K F d v) (n : Nat) : HasL K F (ds.set n d) (xs.set n v) := by
  refine ⟨by simp [a.1], fun i e w hd hv => ?_⟩
  rw [List.getElem?_set] at hd hv
  split at hd
  · rename_i hn
    rw [if_pos hn] at hv
    split at hd
    · split at hv
      · cases hd; cases hv; exact h
      · cases hv
    · cases hd
  · rename_i hn
    rw [if_neg hn] at hv
    exact a.2 i e w hd hv
theorem HasL.dropLast {ds : List PyData} {xs : List V} (a : HasL K F ds xs) : HasL K F ds.dropLast xs.dropLast := by
  rw [List.dropLast_eq_take, List.dropLast_eq_take, a.1]
  exact a.take _
theorem HasL.eraseIdx {ds : List PyData} {xs : List V} (a : HasL K F ds xs) (n : Nat) : HasL K F (ds.eraseIdx n) (xs.eraseIdx n) := by
  rw [List.eraseIdx_eq_take_drop_succ, List.eraseIdx_eq_take_drop_succ]
  exact (a.take n).append (a.drop (n + 1))
theorem HasL.flat_rep {ds : List PyData} {xs : List V} (a : HasL K F ds xs) : ∀ n : Nat, HasL K F (List.replicate n ds).flatten (List.replicate n xs).flatten
  | 0 => .nil
  | n + 1 => by
    rw [List.replicate_succ, List.replicate_succ, List.flatten_cons, List.flatten_cons]
    exact a.append (a.flat_rep n)
theorem HasL.singleton {d : PyData} {v : V} (h : Has K F d v) : HasL K F [d] [v] := .cons h .nil

theorem seqT_mono {a : Addr} {xs : List V} (e : Same F F') (h : SqT K F a xs) : SqT K F' a xs := by
  rcases h with (h | ⟨o, h⟩) | h
  · exact .inl (.inl (e _ _ h))
  · exact .inl (.inr ⟨o, e _ _ h⟩)
  · exact .inr h
theorem rd_mono {a : Addr} {u : HO} (e : Same F F') (h : Rd F a u) : Rd F' a u := by
  rcases h with h | ⟨o, h⟩
  · exact .inl (e _ _ h)
  · exact .inr ⟨o, e _ _ h⟩
theorem Has.mono (e : Same F F') {d : PyData} {v : V} (h : Has K F d v) : Has K F' d v := by
  induction h with
  | non => exact .non
  | bl b => exact .bl b
  | int i => exact .int i
  | str x => exact .str x
  | tup s l _ ih => exact .tup (e _ _ s) l ih
  | lst s l _ ih => exact .lst (e.seq s) l ih
  | dK s l _ ih => exact .dK (rd_mono e s) l ih
  | dT s l _ ih => exact .dT (rd_mono e s) l ih
theorem HasL.mono (e : Same F F') {ds : List PyData} {xs : List V} (h : HasL K F ds xs) : HasL K F' ds xs := ⟨h.1, fun i d v a b => (h.2 i d v a b).mono e⟩
theorem Has.tup' {a : Addr} {xs : List V} {ds : List PyData} (s : F a = some (.tup xs)) (h : HasL K F ds xs) : Has K F (.tuple ds) (.ref a) := .tup s h.1 h.2
theorem Has.lst' {a : Addr} {xs : List V} {ds : List PyData} (s : SqL K F a xs) (h : HasL K F ds xs) : Has K F (.list ds) (.ref a) := .lst s h.1 h.2
theorem Has.tup_invX {ds : List PyData} {v : V} (h : Has K F (.tuple ds) v) : ∃ a xs, v = .ref a ∧ F a = some (.tup xs) ∧ HasL K F ds xs := by
  cases h with
  | tup s l q => exact ⟨_, _, rfl, s, l, q⟩
theorem Has.tup_inv {ds : List PyData} {v : V} (h : Has K F (.tuple ds) v) : ∃ a xs, v = .ref a ∧ SqT K F a xs ∧ HasL K F ds xs := by
  obtain ⟨a, xs, e, s, l⟩ := h.tup_invX
  exact ⟨a, xs, e, .inl (.inl s), l⟩
theorem Has.lst_inv {ds : List PyData} {v : V} (h : Has K F (.list ds) v) : ∃ a xs, v = .ref a ∧ SqL K F a xs ∧ HasL K F ds xs := by
  cases h with
  | lst s l q => exact ⟨_, _, rfl, s, l, q⟩
theorem Has.int_inv {i : Int} {v : V} (h : Has K F (.int i) v) : v = .int i := by cases h; rfl
theorem Has.bl_inv {i : Bool} {v : V} (h : Has K F (.bool i) v) : v = .bl i := by cases h; rfl
theorem Has.str_inv {i : Str} {v : V} (h : Has K F (.str i) v) : v = .str i := by cases h; rfl
theorem Has.non_inv {v : V} (h : Has K F .none v) : v = .non := by cases h; rfl
end

/-- a value in flight: data, or an object that may still change, by its place in the store -/
inductive Vd where
  | p (d : PyData) | loc (k : Nat)
/-- what the store holds at a place; fz: a thing that changes no more -/
inductive Ob where
  | lst (l : List PyData) | dct (t : Bool) (l : List (PyData × PyData)) | fz (d : PyData)
abbrev Store := List Ob
abbrev Slots := List (Option Vd)

/-- the heap's ghosts: what is frozen, where the store lies, the heap -/
structure Gh where
  F : Hp
  A : List Addr
  H : Hp
def HasV (K : PySem.W.Frag) (g : Gh) : Vd → V → Prop
  | .p d, v => Has K g.F d v
  | .loc k, v => ∃ a, g.A[k]? = some a ∧ v = .ref a
def HasVL (K : PySem.W.Frag) (g : Gh) (ds : List Vd) (xs : List V) : Prop := xs.length = ds.length ∧ ∀ (i : Nat) d v, ds[i]? = some d → xs[i]? = some v → HasV K g d v

/-- a dict's entries; t: its keys are tuples -/
def DctAt (K : PySem.W.Frag) (F : Hp) (ds : List (PyData × PyData)) (o : Option HO) : Bool → Prop
  | false => ∃ xs, o = some (.dK xs) ∧ ds.map (·.1) = xs.map (fun p => keyP p.1) ∧ HasL K F (ds.map (·.2)) (xs.map (·.2))
  | true => ∃ xs, o = some (.dT xs) ∧ ds.map (·.1) = xs.map (fun p => keyT p.1) ∧ HasL K F (ds.map (·.2)) (xs.map (·.2))
def ObAt (K : PySem.W.Frag) (g : Gh) (a : Addr) : Ob → Prop
  | .lst ds => g.F a = none ∧ ∃ xs, g.H a = some (.lst xs) ∧ HasL K g.F ds xs
  | .dct t ds => g.F a = none ∧ DctAt K g.F ds (g.H a) t
  | .fz d => Has K g.F d (.ref a)

/-- the code objects of the text's defs, each with its table -/
def tabsOf (K : PySem.W.Frag) : List (Addr × Addr) := K.filterMap fun p => match p.2.data with
  | .func fd => if fd.qualname == fd.name then (match fd.code with
    | .ref c => (match K.lookup c with
      | some ⟨_, _, .fields vs, _⟩ => (match (vs[11]? : Option Value) with
        | some (.ref P) => some (c, P)
        | _ => none)
      | _ => none)
    | _ => none) else none
  | _ => none
/-- a table of codes may grow, so it is neither frozen nor the store's -/
def TabAt (g : Gh) (P : Addr) : Prop := GxR.TabG g.H P ∧ g.F P = none ∧ P ∉ g.A
theorem TabAt.mono {g g' : Gh} {P : Addr} (h : TabAt g P) (hH : g'.H P = g.H P) (hF : g'.F P = g.F P) (hA : g'.A = g.A) : TabAt g' P := by
  obtain ⟨⟨ps, h1, h2⟩, h3, h4⟩ := h
  exact ⟨⟨ps, hH.trans h1, h2⟩, hF.trans h3, hA ▸ h4⟩
theorem TabAt.some {g : Gh} {P : Addr} (h : TabAt g P) : ∃ o, g.H P = some o := by
  obtain ⟨⟨ps, h1, _⟩, _⟩ := h
  exact ⟨_, h1⟩
structure Wd (K : PySem.W.Frag) (st : Store) (g : Gh) : Prop where
  sub : Same g.F g.H
  nd : g.A.Nodup
  len : g.A.length = st.length
  there : ∀ a ∈ g.A, ∃ o, g.H a = some o
  own : ∀ (k : Nat) a ob, g.A[k]? = some a → st[k]? = some ob → ObAt K g a ob
  tabs : ∀ p ∈ tabsOf K, TabAt g p.2

/-- the slots -/
def Sl (K : PySem.W.Frag) (g : Gh) (ρ : Slots) (σ : L2.St) : Prop := σ.length = ρ.length ∧ ∀ (i : Nat) d, ρ[i]? = some (some d) → ∃ v, σ[i]? = some (some v) ∧ HasV K g d v

/-- the world goes on -/
structure Ext (g g' : Gh) : Prop where
  frz : Same g.F g'.F
  new : ∃ B, g'.A = g.A ++ B ∧ ∀ a ∈ B, g.H a = none
  keep : ∀ b o, g.H b = some o → (∀ ps, o ≠ .tbl ps) → b ∉ g.A → g'.H b = some o
  there : ∀ b, g'.H b = none → g.H b = none
  raw : ∀ b o, (g.H b = some o ∧ ∀ xs, o ≠ .tup xs) → b ∉ g.A → g.F b = none → g'.F b = none
  tbl : ∀ b ps, g.H b = some (.tbl ps) → b ∉ g.A → ∃ qs, g'.H b = some (.tbl qs)
theorem Ext.refl (g : Gh) : Ext g g := ⟨Same.refl _, ⟨[], by simp, fun a h => by simp at h⟩, fun _ _ h _ _ => h, fun _ h => h, fun _ _ _ _ h => h, fun _ ps h _ => ⟨ps, h⟩⟩
/-- what stands still stands, changed maybe where it's a table -/
theorem Ext.stands {g g' : Gh} (e : Ext g g') {b : Addr} {o : HO} (h : g.H b = some o) (hn : b ∉ g.A) : ∃ u, g'.H b = some u := by
  by_cases ht : ∃ ps, o = .tbl ps
  · obtain ⟨ps, rfl⟩ := ht
    obtain ⟨qs, q⟩ := e.tbl b ps h hn
    exact ⟨_, q⟩
  · exact ⟨o, e.keep b o h (fun ps z => ht ⟨ps, z⟩) hn⟩
/-- a thing that stands and isn't the store's doesn't become the store's -/
theorem Ext.nin {g g' : Gh} (e : Ext g g') {b : Addr} {o : HO} (h : g.H b = some o) (hn : b ∉ g.A) : b ∉ g'.A := by
  obtain ⟨B, e1, n1⟩ := e.new
  rw [e1]
  intro hm
  rcases List.mem_append.mp hm with hm | hm
  · exact hn hm
  · rw [n1 b hm] at h; cases h
theorem Ext.pre {g g' : Gh} (e : Ext g g') : g.A <+: g'.A := by
  obtain ⟨B, h, _⟩ := e.new
  exact ⟨B, h.symm⟩
theorem Ext.trans {g g1 g2 : Gh} (a : Ext g g1) (b : Ext g1 g2) : Ext g g2 := by
  obtain ⟨B1, e1, n1⟩ := a.new
  obtain ⟨B2, e2, n2⟩ := b.new
  refine ⟨a.frz.trans b.frz, ⟨B1 ++ B2, by rw [e2, e1, List.append_assoc], fun c hc => ?_⟩, fun c o h ht hn => b.keep c o (a.keep c o h ht hn) ht (a.nin h hn), fun c h => a.there c (b.there c h), fun c o h hn hf => ?_, fun c ps h hn => ?_⟩
  · rcases List.mem_append.mp hc with hc | hc
    · exact n1 c hc
    · exact a.there c (n2 c hc)
  · obtain ⟨u, hu, hnt⟩ : ∃ u, g1.H c = some u ∧ ∀ xs, u ≠ .tup xs := by
      by_cases ht : ∃ ps, o = .tbl ps
      · obtain ⟨ps, rfl⟩ := ht
        obtain ⟨qs, q⟩ := a.tbl c ps h.1 hn
        exact ⟨_, q, fun _ z => by cases z⟩
      · exact ⟨o, a.keep c o h.1 (fun ps z => ht ⟨ps, z⟩) hn, h.2⟩
    exact b.raw c u ⟨hu, hnt⟩ (a.nin h.1 hn) (a.raw c o h hn hf)
  · obtain ⟨qs, q⟩ := a.tbl c ps h hn
    exact b.tbl c qs q (a.nin h hn)
theorem Has.ext {K : PySem.W.Frag} {g g' : Gh} (e : Ext g g') {d : PyData} {v : V} (h : Has K g.F d v) : Has K g'.F d v := h.mono e.frz
theorem HasL.ext {K : PySem.W.Frag} {g g' : Gh} (e : Ext g g') {d : List PyData} {v : List V} (h : HasL K g.F d v) : HasL K g'.F d v := h.mono e.frz
theorem HasV.mono {K : PySem.W.Frag} {g g' : Gh} (e : Same g.F g'.F) (p : g.A <+: g'.A) {d : Vd} {v : V} (h : HasV K g d v) : HasV K g' d v := by
  cases d with
  | p d => exact Has.mono e h
  | loc k =>
    obtain ⟨a, h1, h2⟩ := h
    obtain ⟨B, hB⟩ := p
    refine ⟨a, ?_, h2⟩
    rw [← hB, List.getElem?_append_left (List.getElem?_eq_some_iff.mp h1).1]
    exact h1
theorem HasV.ext {K : PySem.W.Frag} {g g' : Gh} (e : Ext g g') {d : Vd} {v : V} (h : HasV K g d v) : HasV K g' d v := h.mono e.frz e.pre
theorem Sl.mono {K : PySem.W.Frag} {g g' : Gh} (e : Same g.F g'.F) (p : g.A <+: g'.A) {ρ : Slots} {σ : L2.St} (h : Sl K g ρ σ) : Sl K g' ρ σ := ⟨h.1, fun i d hi => by
  obtain ⟨v, h1, h2⟩ := h.2 i d hi
  exact ⟨v, h1, h2.mono e p⟩⟩
theorem Sl.ext {K : PySem.W.Frag} {g g' : Gh} (e : Ext g g') {ρ : Slots} {σ : L2.St} (h : Sl K g ρ σ) : Sl K g' ρ σ := ⟨h.1, fun i d hi => by
  obtain ⟨v, h1, h2⟩ := h.2 i d hi
  exact ⟨v, h1, h2.ext e⟩⟩

/-! ### answers -/
inductive R (α : Type) where
  | ok (a : α) | exc (n : Str) (st : Store) | bad
@[simp] def R.bind {α β : Type} : R α → (α → R β) → R β
  | .ok a, f => f a
  | .exc n st, _ => .exc n st
  | .bad, _ => .bad
instance : Monad R where
  pure := R.ok
  bind := R.bind
@[simp] theorem R.pure_eq {α : Type} (a : α) : (pure a : R α) = .ok a := rfl
@[simp] theorem R.ok_bind {α β : Type} (a : α) (f : α → R β) : (R.ok a >>= f) = f a := rfl
@[simp] theorem R.exc_bind {α β : Type} (n : Str) (st : Store) (f : α → R β) : (R.exc n st >>= f) = .exc n st := rfl
@[simp] theorem R.bad_bind {α β : Type} (f : α → R β) : (R.bad >>= f) = .bad := rfl

/-- an expression's meaning -/
abbrev FE := Slots → Store → R (Vd × Store)

/-- what is wanted behind an answer -/
def KR {α : Type} (ne : Str → Store → Prop) (ok : α → Prop) : R α → Prop
  | .ok a => ok a
  | .exc n st => ne n st
  | .bad => False
theorem KR.bind {α β : Type} {ne : Str → Store → Prop} {ok : β → Prop} {r : R α} {f : α → R β} (h : KR ne ok (r >>= f)) : KR ne (fun a => KR ne ok (f a)) r := by
  cases r with
  | ok a => exact h
  | exc n s => exact h
  | bad => exact h
theorem KR.mono {α : Type} {ne ne' : Str → Store → Prop} {ok ok' : α → Prop} {r : R α} (h : KR ne ok r) (h1 : ∀ a, ok a → ok' a) (h2 : ∀ n s, ne n s → ne' n s) : KR ne' ok' r := by
  cases r with
  | ok a => exact h1 _ h
  | exc n s => exact h2 _ _ h
  | bad => exact h

/-- the state is told by ρ, st -/
structure Rel (K : PySem.W.Frag) (ρ : Slots) (st : Store) (σ : L2.St) (g : Gh) : Prop where
  wd : Wd K st g
  sl : Sl K g ρ σ

/-- how exceptions are wished: by the class's name -/
abbrev Wish := Str → L2.St → Hp → Prop
abbrev noW : Wish := fun _ _ _ => False

/-- how exceptions are wished from here on -/
def WN (K : PySem.W.Frag) (W : Wish) (ρ : Slots) (σ : L2.St) (g : Gh) : Str → Store → Prop := fun n st => ∀ g', Ext g g' → Rel K ρ st σ g' → W n σ g'.H
theorem WN.ext {K : PySem.W.Frag} {W : Wish} {ρ : Slots} {σ : L2.St} {g g' : Gh} (e : Ext g g') {n : Str} {st : Store} (h : WN K W ρ σ g n st) : WN K W ρ σ g' n st := fun g2 e2 => h g2 (e.trans e2)
/-- behind an expression -/
def KE (K : PySem.W.Frag) (W : Wish) (ρ : Slots) (σ : L2.St) (g : Gh) (Q : VK) : R (Vd × Store) → Prop :=
  KR (WN K W ρ σ g) fun a => ∀ v g', Ext g g' → Rel K ρ a.2 σ g' → HasV K g' a.1 v → Q v g'.H

/-- the expression e means f -/
def VE (X : Cx) (W : Wish) (e : Expr) (f : FE) : Prop :=
  ∃ t, PE X e t ∧ ∀ ρ st σ g Q, Rel X.K ρ st σ g → KE X.K W ρ σ g Q (f ρ st) → t σ g.H Q
end VL

namespace VL
open PySem PySem.Spec PyProof.Rows L2

theorem Rel.ext {K : PySem.W.Frag} {ρ : Slots} {st st' : Store} {σ : L2.St} {g g' : Gh} (r : Rel K ρ st σ g) (e : Ext g g') (w : Wd K st' g') : Rel K ρ st' σ g' := ⟨w, r.sl.ext e⟩

/-- a wish about answers that holds on -/
def Goes {β : Type} (ok : Gh → β → Prop) : Prop := ∀ g g' b, Ext g g' → ok g b → ok g' b

def okE (K : PySem.W.Frag) (ρ : Slots) (σ : L2.St) (Q : VK) (g : Gh) (a : Vd × Store) : Prop := ∀ v g', Ext g g' → Rel K ρ a.2 σ g' → HasV K g' a.1 v → Q v g'.H
theorem okE.goes {K : PySem.W.Frag} {ρ : Slots} {σ : L2.St} {Q : VK} : Goes (okE K ρ σ Q) := fun g g' b e h v g2 e2 => h v g2 (e.trans e2)

section
variable {X : Cx} {W : Wish}
/-- the use of a sub-expression -/
theorem VE.run {e : Expr} {f : FE} (h : VE X W e f) : ∃ t, PE X e t ∧ ∀ {β : Type} (ρ : Slots) (st : Store) (σ : L2.St) (g : Gh) (P : VK) (ok : Gh → β → Prop) (k : Vd × Store → R β), Goes ok → Rel X.K ρ st σ g →
    KR (WN X.K W ρ σ g) (ok g) (f ρ st >>= k) →
    (∀ d st1 v g1, Ext g g1 → Rel X.K ρ st1 σ g1 → HasV X.K g1 d v → KR (WN X.K W ρ σ g1) (ok g1) (k (d, st1)) → P v g1.H) → t σ g.H P := by
  obtain ⟨t, ht, hr⟩ := h
  refine ⟨t, ht, fun {β} ρ st σ g P ok k go rel kr hP => hr ρ st σ g P rel ?_⟩
  refine KR.mono kr.bind (fun a ha v g1 e r hv => ?_) fun n s hn => hn
  exact hP a.1 a.2 v g1 e r hv (KR.mono ha (fun b hb => go g g1 b e hb) fun n s hn => hn.ext e)

/-! ### tests, lists of arguments -/
abbrev FT := Slots → Store → R (Bool × Store)
abbrev FA := Slots → Store → R (List Vd × Store)
def okT (K : PySem.W.Frag) (ρ : Slots) (σ : L2.St) (Q : Bool → Hp → Prop) (g : Gh) (a : Bool × Store) : Prop := ∀ g', Ext g g' → Rel K ρ a.2 σ g' → Q a.1 g'.H
theorem okT.goes {K : PySem.W.Frag} {ρ : Slots} {σ : L2.St} {Q : Bool → Hp → Prop} : Goes (okT K ρ σ Q) := fun g g' b e h g2 e2 => h g2 (e.trans e2)
def okA (K : PySem.W.Frag) (ρ : Slots) (σ : L2.St) (Q : List V → Hp → Prop) (g : Gh) (a : List Vd × Store) : Prop := ∀ vs g', Ext g g' → Rel K ρ a.2 σ g' → HasVL K g' a.1 vs → Q vs g'.H
theorem okA.goes {K : PySem.W.Frag} {ρ : Slots} {σ : L2.St} {Q : List V → Hp → Prop} : Goes (okA K ρ σ Q) := fun g g' b e h vs g2 e2 => h vs g2 (e.trans e2)
def VT (X : Cx) (W : Wish) (e : Expr) (f : FT) : Prop :=
  ∃ t, PT X e t ∧ ∀ ρ st σ g Q, Rel X.K ρ st σ g → KR (WN X.K W ρ σ g) (okT X.K ρ σ Q g) (f ρ st) → t σ g.H Q
def VWt (X : Cx) (W : Wish) (e : Expr) (f : FT) : Prop :=
  ∃ t, PW X e t ∧ ∀ ρ st σ g Q, Rel X.K ρ st σ g → KR (WN X.K W ρ σ g) (okT X.K ρ σ Q g) (f ρ st) → t σ g.H Q
def VA (X : Cx) (W : Wish) (es : List Expr) (f : FA) : Prop :=
  ∃ t, PA X es t ∧ ∀ ρ st σ g Q, Rel X.K ρ st σ g → KR (WN X.K W ρ σ g) (okA X.K ρ σ Q g) (f ρ st) → t σ g.H Q
theorem VWt.vt {e : Expr} {f : FT} (h : VWt X W e f) : VT X W e f := let ⟨t, a, b⟩ := h; ⟨t, a.pt, b⟩
theorem VT.run {e : Expr} {f : FT} (h : VT X W e f) : ∃ t, PT X e t ∧ ∀ {β : Type} (ρ : Slots) (st : Store) (σ : L2.St) (g : Gh) (P : Bool → Hp → Prop) (ok : Gh → β → Prop) (k : Bool × Store → R β), Goes ok → Rel X.K ρ st σ g →
    KR (WN X.K W ρ σ g) (ok g) (f ρ st >>= k) →
    (∀ d st1 g1, Ext g g1 → Rel X.K ρ st1 σ g1 → KR (WN X.K W ρ σ g1) (ok g1) (k (d, st1)) → P d g1.H) → t σ g.H P := by
  obtain ⟨t, ht, hr⟩ := h
  refine ⟨t, ht, fun {β} ρ st σ g P ok k go rel kr hP => hr ρ st σ g P rel ?_⟩
  refine KR.mono kr.bind (fun a ha g1 e r => ?_) fun n s hn => hn
  exact hP a.1 a.2 g1 e r (KR.mono ha (fun b hb => go g g1 b e hb) fun n s hn => hn.ext e)
theorem VWt.run {e : Expr} {f : FT} (h : VWt X W e f) : ∃ t, PW X e t ∧ ∀ {β : Type} (ρ : Slots) (st : Store) (σ : L2.St) (g : Gh) (P : Bool → Hp → Prop) (ok : Gh → β → Prop) (k : Bool × Store → R β), Goes ok → Rel X.K ρ st σ g →
    KR (WN X.K W ρ σ g) (ok g) (f ρ st >>= k) →
    (∀ d st1 g1, Ext g g1 → Rel X.K ρ st1 σ g1 → KR (WN X.K W ρ σ g1) (ok g1) (k (d, st1)) → P d g1.H) → t σ g.H P := by
  obtain ⟨t, ht, hr⟩ := h
  refine ⟨t, ht, fun {β} ρ st σ g P ok k go rel kr hP => hr ρ st σ g P rel ?_⟩
  refine KR.mono kr.bind (fun a ha g1 e r => ?_) fun n s hn => hn
  exact hP a.1 a.2 g1 e r (KR.mono ha (fun b hb => go g g1 b e hb) fun n s hn => hn.ext e)
theorem VA.run {es : List Expr} {f : FA} (h : VA X W es f) : ∃ t, PA X es t ∧ ∀ {β : Type} (ρ : Slots) (st : Store) (σ : L2.St) (g : Gh) (P : List V → Hp → Prop) (ok : Gh → β → Prop) (k : List Vd × Store → R β), Goes ok → Rel X.K ρ st σ g →
    KR (WN X.K W ρ σ g) (ok g) (f ρ st >>= k) →
    (∀ d st1 v g1, Ext g g1 → Rel X.K ρ st1 σ g1 → HasVL X.K g1 d v → KR (WN X.K W ρ σ g1) (ok g1) (k (d, st1)) → P v g1.H) → t σ g.H P := by
  obtain ⟨t, ht, hr⟩ := h
  refine ⟨t, ht, fun {β} ρ st σ g P ok k go rel kr hP => hr ρ st σ g P rel ?_⟩
  refine KR.mono kr.bind (fun a ha v g1 e r hv => ?_) fun n s hn => hn
  exact hP a.1 a.2 v g1 e r hv (KR.mono ha (fun b hb => go g g1 b e hb) fun n s hn => hn.ext e)

/-! ### names, constants -/
def vVar (i : Nat) : FE := fun ρ st => match ρ[i]? with
  | some (some d) => .ok (d, st)
  | _ => .bad
def vC (d : PyData) : FE := fun _ st => .ok (.p d, st)
theorem ve_of {e : Expr} {t : TE} {i : Nat} (h : PE X e t) (ht : ∀ σ H Q v, σ[i]? = some (some v) → Q v H → t σ H Q) : VE X W e (vVar i) := by
  refine ⟨t, h, fun ρ st σ g Q r k => ?_⟩
  unfold vVar at k
  cases e1 : ρ[i]? with
  | none => rw [e1] at k; exact k.elim
  | some o =>
    cases o with
    | none => rw [e1] at k; exact k.elim
    | some d =>
      rw [e1] at k
      obtain ⟨v, h1, h2⟩ := r.sl.2 i d e1
      exact ht σ g.H Q v h1 (k v g (Ext.refl g) r h2)
theorem ve_var (i : Nat) {x : Str} {pos : Pos} (hN : X.N[i]? = some x := by rfl) (hv : Vis X.env.scope x := by first | exact Or.inl rfl | exact Or.inr (Or.inl rfl) | exact Or.inr (Or.inr rfl)) (hd : (x == ("__debug__" : Str)) = false := by decide)
    (hcd : (x == ("__classdict__" : Str)) = false := by decide) : VE X W (.Name x pos) (vVar i) := ve_of (pe_var hN hv hd hcd) fun _ _ _ v h q => ⟨v, h, q⟩
theorem ve_const {e : Expr} {d : PyData} {v : V} (h : PE X e (tC v)) (hv : ∀ F, Has X.K F d v) : VE X W e (vC d) :=
  ⟨_, h, fun ρ st σ g Q r k => k v g (Ext.refl g) r (hv g.F)⟩
theorem ve_int {i j pos} : VE X W (.Constant (.int i) j pos) (vC (.int i)) := ve_const pe_int fun _ => .int i
theorem ve_bl {b j pos} : VE X W (.Constant (.bool b) j pos) (vC (.bool b)) := ve_const pe_bl fun _ => .bl b
theorem ve_non {j pos} : VE X W (.Constant .none j pos) (vC .none) := ve_const pe_non fun _ => .non
theorem ve_str {x j pos} : VE X W (.Constant (.str x) j pos) (vC (.str x)) := ve_const pe_str fun _ => .str x

/-! ### the world grows -/
/-- a new thing that will not change -/
abbrev Gh.fz (g : Gh) (p : Addr) (o : HO) : Gh := ⟨upd g.F p o, g.A, upd g.H p o⟩
theorem Wd.fnone {st : Store} {g : Gh} {K : PySem.W.Frag} (w : Wd K st g) {p : Addr} (h : g.H p = none) : g.F p = none := w.sub.free h
theorem same_upd {F : Hp} {p : Addr} {o : HO} (h : F p = none) : Same F (upd F p o) := fun b x e => by
  rw [upd_ne (ne_of_none e h)]; exact e
theorem ext_fz {st : Store} {g : Gh} {K : PySem.W.Frag} (w : Wd K st g) {p : Addr} {o : HO} (h : g.H p = none) : Ext g (g.fz p o) :=
  ⟨same_upd (w.fnone h), ⟨[], by simp, fun a z => by simp at z⟩, fun b x e _ _ => by
    show upd g.H p o b = some x
    rw [upd_ne (ne_of_none e h)]; exact e, fun b e => by
    have e : upd g.H p o b = none := e
    by_cases hb : b = p
    · rw [hb]; exact h
    · rw [upd_ne hb] at e; exact e, fun b x e _ hf => by
    show upd g.F p o b = none
    rw [upd_ne (ne_of_none e.1 h)]; exact hf, fun b ps e _ => ⟨ps, by
    show upd g.H p o b = some (.tbl ps)
    rw [upd_ne (ne_of_none e h)]; exact e⟩⟩
theorem HasL.mono' {K : PySem.W.Frag} {F F' : Hp} (e : Same F F') {ds : List PyData} {xs : List V} (h : HasL K F ds xs) : HasL K F' ds xs := h.mono e
theorem DctAt.mono {K : PySem.W.Frag} {F F' : Hp} (e : Same F F') {ds : List (PyData × PyData)} {o : Option HO} {t : Bool} (h : DctAt K F ds o t) : DctAt K F' ds o t := by
  cases t with
  | false =>
    obtain ⟨xs, h1, h2, h3⟩ := h
    exact ⟨xs, h1, h2, h3.mono e⟩
  | true =>
    obtain ⟨xs, h1, h2, h3⟩ := h
    exact ⟨xs, h1, h2, h3.mono e⟩
/-- an owned object in a world that goes on -/
theorem ObAt.ext {K : PySem.W.Frag} {g g' : Gh} {a : Addr} {ob : Ob} (e : Same g.F g'.F) (hf : g.F a = none → g'.F a = none) (hH : g'.H a = g.H a) (h : ObAt K g a ob) : ObAt K g' a ob := by
  cases ob with
  | lst ds =>
    obtain ⟨h0, xs, h1, h2⟩ := h
    exact ⟨hf h0, xs, hH.trans h1, h2.mono e⟩
  | dct t ds =>
    obtain ⟨h0, h1⟩ := h
    exact ⟨hf h0, by rw [hH]; exact h1.mono e⟩
  | fz d => exact Has.mono e h
theorem wd_fz {st : Store} {g : Gh} {K : PySem.W.Frag} (w : Wd K st g) {p : Addr} {o : HO} (h : g.H p = none) : Wd K st (g.fz p o) := by
  have e := ext_fz (o := o) w h
  refine ⟨fun b x q => ?_, w.nd, w.len, fun a ha => ?_, fun k a ob h1 h2 => ?_, fun P hP => ?_⟩
  · have q : upd g.F p o b = some x := q
    show upd g.H p o b = some x
    by_cases hb : b = p
    · rw [hb, upd_same] at q ⊢; exact q
    · rw [upd_ne hb] at q ⊢; exact w.sub b x q
  · obtain ⟨x, hx⟩ := w.there a ha
    refine ⟨x, ?_⟩
    show upd g.H p o a = some x
    rw [upd_ne (ne_of_none hx h)]; exact hx
  · obtain ⟨x, hx⟩ := w.there a (List.mem_of_getElem? h1)
    have hap : a ≠ p := ne_of_none hx h
    refine (w.own k a ob h1 h2).ext e.frz (fun z => ?_) ?_
    · show upd g.F p o a = none
      rw [upd_ne hap]; exact z
    · show upd g.H p o a = g.H a
      rw [upd_ne hap]
  · obtain ⟨x, hx⟩ := (w.tabs P hP).some
    have hap : P.2 ≠ p := ne_of_none hx h
    exact (w.tabs P hP).mono (show upd g.H p o P.2 = g.H P.2 by rw [upd_ne hap]) (show upd g.F p o P.2 = g.F P.2 by rw [upd_ne hap]) rfl
theorem Rel.fz {ρ : Slots} {st : Store} {σ : L2.St} {g : Gh} (r : Rel X.K ρ st σ g) {p : Addr} {o : HO} (h : g.H p = none) : Rel X.K ρ st σ (g.fz p o) := ⟨wd_fz r.wd h, r.sl.ext (ext_fz r.wd h)⟩
/-- a new list, frozen at once -/
theorem has_newL {st : Store} {g : Gh} {K : PySem.W.Frag} (w : Wd K st g) {p : Addr} {ds : List PyData} {xs : List V} (h : g.H p = none) (hv : HasL K g.F ds xs) : Has K (g.fz p (.lst xs)).F (.list ds) (.ref p) :=
  .lst' (.inl (.inl upd_same)) (hv.mono (same_upd (w.fnone h)))
theorem has_newT {st : Store} {g : Gh} {K : PySem.W.Frag} (w : Wd K st g) {p : Addr} {ds : List PyData} {xs : List V} (h : g.H p = none) (hv : HasL K g.F ds xs) : Has K (g.fz p (.tup xs)).F (.tuple ds) (.ref p) :=
  .tup' upd_same (hv.mono (same_upd (w.fnone h)))

/-! ### what a value in flight holds now -/
/-- d is read off v in the heap as it stands: the object itself may be one that changes -/
def Pk (K : PySem.W.Frag) (g : Gh) : PyData → V → Prop
  | .list ds, v => ∃ a xs, v = .ref a ∧ SqL K g.H a xs ∧ HasL K g.F ds xs
  | .dict ds, v => ∃ a, v = .ref a ∧ ((∃ xs, Rd g.H a (.dK xs) ∧ ds.map (·.1) = xs.map (fun p => keyP p.1) ∧ HasL K g.F (ds.map (·.2)) (xs.map (·.2))) ∨
      ∃ xs, Rd g.H a (.dT xs) ∧ ds.map (·.1) = xs.map (fun p => keyT p.1) ∧ HasL K g.F (ds.map (·.2)) (xs.map (·.2)))
  | d, v => Has K g.F d v
def peek (st : Store) : Vd → R PyData
  | .p d => .ok d
  | .loc k => match st[k]? with
    | some (.lst ds) => .ok (.list ds)
    | some (.dct _ ds) => .ok (.dict ds)
    | some (.fz d) => .ok d
    | none => .bad
theorem hasL_map2 {K : PySem.W.Frag} {F : Hp} {α : Type} {ds : List (PyData × PyData)} {xs : List (α × V)} (hl : xs.length = ds.length) (h : ∀ (i : Nat) d v, ds[i]? = some d → xs[i]? = some v → Has K F d.2 v.2) : HasL K F (ds.map (·.2)) (xs.map (·.2)) := by
  refine ⟨by simp [hl], fun i d v hd hv => ?_⟩
  rw [List.getElem?_map] at hd hv
  cases e1 : ds[i]? with
  | none => rw [e1] at hd; cases hd
  | some p =>
    cases e2 : xs[i]? with
    | none => rw [e2] at hv; cases hv
    | some q =>
      rw [e1] at hd; rw [e2] at hv
      cases hd; cases hv
      exact h i p q e1 e2
theorem Has.pk {K : PySem.W.Frag} {st : Store} {g : Gh} (w : Wd K st g) {d : PyData} {v : V} (h : Has K g.F d v) : Pk K g d v := by
  cases h with
  | non => exact .non
  | bl b => exact .bl b
  | int i => exact .int i
  | str x => exact .str x
  | tup s l q => exact .tup s l q
  | lst s l q => exact ⟨_, _, rfl, w.sub.seq s, l, q⟩
  | dK s l q =>
    refine ⟨_, rfl, .inl ⟨_, rd_mono w.sub s, l, hasL_map2 ?_ q⟩⟩
    have := congrArg List.length l
    simpa using this.symm
  | dT s l q =>
    refine ⟨_, rfl, .inr ⟨_, rd_mono w.sub s, l, hasL_map2 ?_ q⟩⟩
    have := congrArg List.length l
    simpa using this.symm
theorem pk_of {K : PySem.W.Frag} {st : Store} {g : Gh} (w : Wd K st g) {x : Vd} {v : V} (h : HasV K g x v) {d : PyData} (e : peek st x = .ok d) : Pk K g d v := by
  cases x with
  | p d' => cases e; exact Has.pk w h
  | loc k =>
    obtain ⟨a, h1, rfl⟩ := h
    simp only [peek] at e
    cases hk : st[k]? with
    | none => rw [hk] at e; cases e
    | some ob =>
      have o := w.own k a ob h1 hk
      rw [hk] at e
      cases ob with
      | lst ds =>
        cases e
        obtain ⟨_, xs, q1, q2⟩ := o
        exact ⟨a, xs, rfl, .inl (.inl q1), q2⟩
      | dct t ds =>
        cases e
        obtain ⟨_, q⟩ := o
        cases t with
        | false =>
          obtain ⟨xs, q1, q2, q3⟩ := q
          exact ⟨a, rfl, .inl ⟨xs, .inl q1, q2, q3⟩⟩
        | true =>
          obtain ⟨xs, q1, q2, q3⟩ := q
          exact ⟨a, rfl, .inr ⟨xs, .inl q1, q2, q3⟩⟩
      | fz d' => cases e; exact Has.pk w o

/-! ### what a value in flight holds, from now on for good -/
def frz (st : Store) : Vd → R (PyData × Store)
  | .p d => .ok (d, st)
  | .loc k => match st[k]? with
    | some (.lst ds) => .ok (.list ds, st.set k (.fz (.list ds)))
    | some (.dct _ ds) => .ok (.dict ds, st.set k (.fz (.dict ds)))
    | some (.fz d) => .ok (d, st)
    | none => .bad
/-- an owned object becomes a frozen one -/
abbrev Gh.freeze (g : Gh) (a : Addr) (o : HO) : Gh := ⟨upd g.F a o, g.A, g.H⟩
theorem has_dct {K : PySem.W.Frag} {F : Hp} {ds : List (PyData × PyData)} {o : HO} {a : Addr} {t : Bool} (h : DctAt K F ds (some o) t) (ha : Rd F a o) : Has K F (.dict ds) (.ref a) := by
  have key : ∀ {α : Type} {xs : List (α × V)}, ds.length = xs.length → HasL K F (ds.map (·.2)) (xs.map (·.2)) → ∀ (i : Nat) d v, ds[i]? = some d → xs[i]? = some v → Has K F d.2 v.2 := fun {α xs} _ hl i d v hd hv =>
    hl.2 i d.2 v.2 (by rw [List.getElem?_map, hd]; rfl) (by rw [List.getElem?_map, hv]; rfl)
  cases t with
  | false =>
    obtain ⟨xs, h1, h2, h3⟩ := h
    cases h1
    exact .dK ha h2 (key (by simpa using congrArg List.length h2) h3)
  | true =>
    obtain ⟨xs, h1, h2, h3⟩ := h
    cases h1
    exact .dT ha h2 (key (by simpa using congrArg List.length h2) h3)
theorem frz_ok {K : PySem.W.Frag} {ρ : Slots} {st st' : Store} {σ : L2.St} {g : Gh} (r : Rel K ρ st σ g) {x : Vd} {v : V} (h : HasV K g x v) {d : PyData} (e : frz st x = .ok (d, st')) : ∃ g', g'.H = g.H ∧ Ext g g' ∧ Rel K ρ st' σ g' ∧ Has K g'.F d v := by
  cases x with
  | p d' => cases e; exact ⟨g, rfl, Ext.refl g, r, h⟩
  | loc k =>
    obtain ⟨a, h1, rfl⟩ := h
    simp only [frz] at e
    have main : ∀ (o : HO) (d' : PyData), g.F a = none → g.H a = some o → Has K (upd g.F a o) d' (.ref a) → k < st.length → ∃ g', g'.H = g.H ∧ Ext g g' ∧ Rel K ρ (st.set k (.fz d')) σ g' ∧ Has K g'.F d' (.ref a) := by
      intro o d' hF hH hd hk
      have sm : Same g.F (upd g.F a o) := same_upd hF
      have ex : Ext g (g.freeze a o) := ⟨sm, ⟨[], by simp, fun a z => by simp at z⟩, fun _ _ q _ _ => q, fun _ q => q, fun b x _ hb hf => by
        show upd g.F a o b = none
        rw [upd_ne (fun (z : b = a) => hb (by rw [z]; exact List.mem_of_getElem? h1))]; exact hf, fun b ps q _ => ⟨ps, q⟩⟩
      refine ⟨g.freeze a o, rfl, ex, ⟨⟨fun b x q => ?_, r.wd.nd, by rw [List.length_set]; exact r.wd.len, r.wd.there, fun j b ob hj hb => ?_, fun P hP => ?_⟩, r.sl.ext ex⟩, hd⟩
      · have q : upd g.F a o b = some x := q
        by_cases hb : b = a
        · rw [hb, upd_same] at q; cases q; rw [hb]; exact hH
        · rw [upd_ne hb] at q; exact r.wd.sub b x q
      · by_cases hjk : j = k
        · subst hjk
          rw [List.getElem?_set_self hk] at hb
          cases hb
          have : b = a := by rw [h1] at hj; cases hj; rfl
          subst this
          exact hd
        · rw [List.getElem?_set_ne (Ne.symm hjk)] at hb
          have hba : b ≠ a := fun z => hjk (nd_ix r.wd.nd hj (z ▸ h1))
          refine (r.wd.own j b ob hj hb).ext sm (fun z => ?_) rfl
          show upd g.F a o b = none
          rw [upd_ne hba]; exact z
      · have hPa : P.2 ≠ a := fun z => (r.wd.tabs P hP).2.2 (by rw [z]; exact List.mem_of_getElem? h1)
        exact (r.wd.tabs P hP).mono rfl (show upd g.F a o P.2 = g.F P.2 by rw [upd_ne hPa]) rfl
    cases hk : st[k]? with
    | none => rw [hk] at e; cases e
    | some ob =>
      have kl : k < st.length := (List.getElem?_eq_some_iff.mp hk).1
      have o := r.wd.own k a ob h1 hk
      rw [hk] at e
      cases ob with
      | lst ds =>
        cases e
        obtain ⟨q0, xs, q1, q2⟩ := o
        exact main (.lst xs) (.list ds) q0 q1 (.lst' (.inl (.inl upd_same)) (q2.mono (same_upd q0))) kl
      | dct t ds =>
        cases e
        obtain ⟨q0, q1⟩ := o
        obtain ⟨u, hu⟩ : ∃ u, g.H a = some u := by
          cases t with
          | false => obtain ⟨xs, q, _⟩ := q1; exact ⟨_, q⟩
          | true => obtain ⟨xs, q, _⟩ := q1; exact ⟨_, q⟩
        rw [hu] at q1
        exact main u (.dict ds) q0 hu (has_dct (q1.mono (same_upd q0)) (.inl upd_same)) kl
      | fz d' => cases e; exact ⟨g, rfl, Ext.refl g, r, o⟩
end
end VL

namespace VL
open PySem PySem.Spec PyProof.Rows L2

/-! ### data as the library reads them -/
theorem dpAll_of {K : PySem.W.Frag} {F : Hp} : ∀ {ds : List PyData} {xs : List V}, xs.length = ds.length → (∀ (i : Nat) d v, ds[i]? = some d → xs[i]? = some v → Dp K F v d) → DpAll K F xs ds
  | [], [], _, _ => .nil
  | d :: ds, v :: xs, hl, h => .cons (h 0 d v rfl rfl) (dpAll_of (by simpa using hl) fun i d' v' h1 h2 => h (i + 1) d' v' (by simpa using h1) (by simpa using h2))
  | [], _ :: _, hl, _ => absurd hl (by simp)
  | _ :: _, [], hl, _ => absurd hl (by simp)
theorem canLay_mem : ∀ {ds : List PyData}, PyData.canLayAll0 ds = true → ∀ (i : Nat) d, ds[i]? = some d → d.canLay0 = true
  | [], _, i, d, h => by simp at h
  | e :: ds, hc, 0, d, h => by
    simp only [PyData.canLayAll0, Bool.and_eq_true] at hc
    simp at h; subst h; exact hc.1
  | e :: ds, hc, i + 1, d, h => by
    simp only [PyData.canLayAll0, Bool.and_eq_true] at hc
    exact canLay_mem hc.2 i d (by simpa using h)
theorem Has.dp {K : PySem.W.Frag} {F : Hp} {d : PyData} {v : V} (h : Has K F d v) (hc : d.canLay0 = true) : Dp K F v d := by
  induction h with
  | non => exact .non
  | bl b => exact .bl b
  | int i => exact .int i
  | str x => exact .str x
  | tup s l _ ih =>
    simp only [PyData.canLay0] at hc
    exact .tup (.inl (.inl s)) (dpAll_of l fun i d v h1 h2 => ih i d v h1 h2 (canLay_mem hc i d h1))
  | lst s l _ ih =>
    simp only [PyData.canLay0] at hc
    exact .lst s (dpAll_of l fun i d v h1 h2 => ih i d v h1 h2 (canLay_mem hc i d h1))
  | dK s l _ ih => simp [PyData.canLay0] at hc
  | dT s l _ ih => simp [PyData.canLay0] at hc
theorem HasL.dpAll {K : PySem.W.Frag} {F : Hp} {ds : List PyData} {xs : List V} (h : HasL K F ds xs) (hc : PyData.canLayAll0 ds = true) : DpAll K F xs ds :=
  dpAll_of h.1 fun i d v h1 h2 => (h.2 i d v h1 h2).dp (canLay_mem hc i d h1)
theorem dp_same {K : PySem.W.Frag} {F F' : Hp} (e : Same F F') {d : PyData} {v : V} (h : Has K F d v) (hc : d.canLay0 = true) : Dp K F' v d := (h.mono e).dp hc
theorem Pk.dp {K : PySem.W.Frag} {st : Store} {g : Gh} (w : Wd K st g) {d : PyData} {v : V} (h : Pk K g d v) (hc : d.canLay0 = true) : Dp K g.H v d := by
  cases d with
  | list ds =>
    obtain ⟨a, xs, rfl, s, l⟩ := h
    simp only [PyData.canLay0] at hc
    exact .lst s ((l.mono w.sub).dpAll hc)
  | dict ds => simp [PyData.canLay0] at hc
  | none => exact dp_same w.sub h hc
  | bool b => exact dp_same w.sub h hc
  | int b => exact dp_same w.sub h hc
  | str b => exact dp_same w.sub h hc
  | tuple b => exact dp_same w.sub h hc

section
variable {X : Cx} {W : Wish}
abbrev okP (K : PySem.W.Frag) (ρ : Slots) (σ : L2.St) (Q : VK) (st : Store) (g : Gh) : Gh → PyData → Prop := fun _ _ => True
/-- an operation upon what two values hold -/
def OpV (X : Cx) (W : Wish) (f : Value → Value → Sem Value) (o : PyData → PyData → R PyData) : Prop :=
  ∃ r, OpR X f r ∧ ∀ (ρ : Slots) (st : Store) (σ : L2.St) (g : Gh) (x y : PyData) (v u : V) (Q : VK), Rel X.K ρ st σ g → Pk X.K g x v → Pk X.K g y u →
    KR (WN X.K W ρ σ g) (okE X.K ρ σ Q g) (o x y >>= fun d => .ok (.p d, st)) → r v u g.H Q
def vBin (o : PyData → PyData → R PyData) (f h : FE) : FE := fun ρ st => f ρ st >>= fun a => h ρ a.2 >>= fun b => peek b.2 a.1 >>= fun x => peek b.2 b.1 >>= fun y => o x y >>= fun d => .ok (.p d, b.2)
theorem bin_run {r : R2} {o : PyData → PyData → R PyData} {a b : Expr} {f h : FE} (ho : ∀ (ρ : Slots) (st : Store) (σ : L2.St) (g : Gh) (x y : PyData) (v u : V) (Q : VK), Rel X.K ρ st σ g → Pk X.K g x v → Pk X.K g y u →
    KR (WN X.K W ρ σ g) (okE X.K ρ σ Q g) (o x y >>= fun d => .ok (.p d, st)) → r v u g.H Q) (ha : VE X W a f) (hb : VE X W b h) :
    ∃ ta tb, PE X a ta ∧ PE X b tb ∧ ∀ ρ st σ g Q, Rel X.K ρ st σ g → KE X.K W ρ σ g Q (vBin o f h ρ st) → tOp r ta tb σ g.H Q := by
  obtain ⟨ta, pa, ra⟩ := ha.run
  obtain ⟨tb, pb, rb⟩ := hb.run
  refine ⟨ta, tb, pa, pb, fun ρ st σ g Q rel k => ?_⟩
  refine ra ρ st σ g _ (okE X.K ρ σ Q) _ okE.goes rel k fun d1 st1 v1 g1 e1 r1 h1 k1 => ?_
  refine rb ρ st1 σ g1 _ (okE X.K ρ σ Q) _ okE.goes r1 k1 fun d2 st2 v2 g2 e2 r2 h2 k2 => ?_
  cases p1 : peek st2 d1 with
  | bad => rw [p1] at k2; exact k2.elim
  | exc n s => cases d1 with
    | p d => simp [peek] at p1
    | loc k => simp only [peek] at p1; split at p1 <;> cases p1
  | ok x =>
    cases p2 : peek st2 d2 with
    | bad => simp only [p1, p2] at k2; exact k2.elim
    | exc n s => cases d2 with
      | p d => simp [peek] at p2
      | loc k => simp only [peek] at p2; split at p2 <;> cases p2
    | ok y =>
      simp only [p1, p2] at k2
      exact ho ρ st2 σ g2 x y v1 v2 Q r2 (pk_of r2.wd (h1.ext e2) p1) (pk_of r2.wd h2 p2) k2
theorem ve_op {op : Operator} {o : PyData → PyData → R PyData} {a b : Expr} {f h : FE} {pos : Pos} (ho : OpV X W (binaryOp op) o) (ha : VE X W a f) (hb : VE X W b h) : VE X W (.BinOp a op b pos) (vBin o f h) := by
  obtain ⟨r, h1, h2⟩ := ho
  obtain ⟨ta, tb, pa, pb, k⟩ := bin_run h2 ha hb
  exact ⟨_, pe_op h1 pa pb, k⟩
theorem ve_cmp {op : CmpOp} {o : PyData → PyData → R PyData} {a b : Expr} {f h : FE} {pos : Pos} (ho : OpV X W (compareOp op) o) (ha : VE X W a f) (hb : VE X W b h) (hm : behindInMarks op b = false) : VE X W (.Compare a [op] [b] pos) (vBin o f h) := by
  obtain ⟨r, h1, h2⟩ := ho
  obtain ⟨ta, tb, pa, pb, k⟩ := bin_run h2 ha hb
  exact ⟨_, pe_cmpR h1 pa pb hm, k⟩
/-- a bool out of an answer -/
def asB (f : FE) : FT := fun ρ st => f ρ st >>= fun a => match a.1 with
  | .p (.bool b) => .ok (b, a.2)
  | _ => .bad
theorem vt_cmp {op : CmpOp} {o : PyData → PyData → R PyData} {a b : Expr} {f h : FE} {pos : Pos} (ho : OpV X W (compareOp op) o) (ha : VE X W a f) (hb : VE X W b h) (hm : behindInMarks op b = false) : VT X W (.Compare a [op] [b] pos) (asB (vBin o f h)) := by
  obtain ⟨r, h1, h2⟩ := ho
  obtain ⟨ta, tb, pa, pb, k⟩ := bin_run h2 ha hb
  refine ⟨_, pt_cmpR h1 pa pb hm, fun ρ st σ g Q rel kr => k ρ st σ g _ rel ?_⟩
  refine KR.mono (KR.bind kr) (fun z hz v g' e r' hv => ?_) fun n s hn => hn
  obtain ⟨d, st'⟩ := z
  cases d with
  | loc _ => exact hz.elim
  | p d =>
    cases d with
    | bool b => exact ⟨b, hv.bl_inv, hz g' e r'⟩
    | _ => exact hz.elim

/-! ### the operations -/
abbrev LIM : Nat := 16777216
theorem lim_eq : (sizeLine : Nat) = LIM := sizeLine_eq
/-- one rule of ints -/
theorem okP_fin {ρ : Slots} {st : Store} {σ : L2.St} {g : Gh} {Q : VK} {d : PyData} {v : V} (rel : Rel X.K ρ st σ g) (hv : Has X.K g.F d v) (k : KR (WN X.K W ρ σ g) (okE X.K ρ σ Q g) (.ok (.p d, st) : R (Vd × Store))) : Q v g.H := k v g (Ext.refl g) rel hv
theorem okP_newL {ρ : Slots} {st : Store} {σ : L2.St} {g : Gh} {Q : VK} {ds : List PyData} {xs : List V} (rel : Rel X.K ρ st σ g) (hv : HasL X.K g.F ds xs) (k : KR (WN X.K W ρ σ g) (okE X.K ρ σ Q g) (.ok (.p (.list ds), st) : R (Vd × Store))) :
    ∀ p, g.H p = none → Q (.ref p) (upd g.H p (.lst xs)) := fun p hp => k (.ref p) (g.fz p (.lst xs)) (ext_fz rel.wd hp) (rel.fz hp) (has_newL rel.wd hp hv)
theorem okP_newT {ρ : Slots} {st : Store} {σ : L2.St} {g : Gh} {Q : VK} {ds : List PyData} {xs : List V} (rel : Rel X.K ρ st σ g) (hv : HasL X.K g.F ds xs) (k : KR (WN X.K W ρ σ g) (okE X.K ρ σ Q g) (.ok (.p (.tuple ds), st) : R (Vd × Store))) :
    ∀ p, g.H p = none → Q (.ref p) (upd g.H p (.tup xs)) := fun p hp => k (.ref p) (g.fz p (.tup xs)) (ext_fz rel.wd hp) (rel.fz hp) (has_newT rel.wd hp hv)

/-- list + list, any that are read -/
def rCatL (K : PySem.W.Frag) : R2 := fun x y H Q => ∃ l b xs zs, x = .ref l ∧ y = .ref b ∧ SqL K H l xs ∧ SqL K H b zs ∧ xs.length + zs.length ≤ sizeLine ∧ ∀ p, H p = none → Q (.ref p) (upd H p (.lst (xs ++ zs)))
theorem op_catL : OpR X (binaryOp .Add) (rCatL X.K) := by
  intro pins s σ H x y v u Q I rx ry h
  obtain ⟨l, b, xs, zs, rfl, rfl, hH, hB, hz, q⟩ := h
  cases rx
  cases ry
  obtain ⟨its, r, ⟨⟨cls, dd, data, sl⟩, n, ho, hc, hdn, hd⟩, z⟩ := I.list hH
  obtain ⟨its2, r2, ⟨⟨cls2, dd2, data2, sl2⟩, n2, ho2, hc2, hdn2, hd2⟩, z2⟩ := I.list hB
  simp only at hc hd hdn hc2 hd2 hdn2
  subst hc hd hdn hc2 hd2 hdn2
  have hl := r.length
  have hl2 := r2.length
  have ea : its.toArray ++ its2.toArray = (its ++ its2).toArray := by simp
  refine concat_meets ⟨_, ho, rfl⟩ ⟨_, ho2, rfl⟩ noFill_list_add seq_list_add PySem.F.slot_list_add PySem.F.entry_list_add (PySem.F.args_list_add_2 _ _) (list_addW l b its.toArray its2.toArray n n2 _ _ _ _ (by rw [List.size_toArray, List.size_toArray]; omega)) ⟨ho, ho2, ?_⟩
  rw [ea]
  exact ⟨.ref _, _, I.lnew (t' := s.toks) (r.append r2) (by rw [List.length_append]; omega), rfl, q _ I.fresh⟩

theorem Pk.int {K : PySem.W.Frag} {g : Gh} {i : Int} {v : V} (h : Pk K g (.int i) v) : v = .int i := Has.int_inv h
theorem Pk.bl {K : PySem.W.Frag} {g : Gh} {i : Bool} {v : V} (h : Pk K g (.bool i) v) : v = .bl i := Has.bl_inv h
theorem Pk.str {K : PySem.W.Frag} {g : Gh} {i : Str} {v : V} (h : Pk K g (.str i) v) : v = .str i := Has.str_inv h
theorem Pk.non {K : PySem.W.Frag} {g : Gh} {v : V} (h : Pk K g .none v) : v = .non := Has.non_inv h
theorem Pk.lst {K : PySem.W.Frag} {g : Gh} {ds : List PyData} {v : V} (h : Pk K g (.list ds) v) : ∃ a xs, v = .ref a ∧ SqL K g.H a xs ∧ HasL K g.F ds xs := h
theorem Pk.tup {K : PySem.W.Frag} {st : Store} {g : Gh} (w : Wd K st g) {ds : List PyData} {v : V} (h : Pk K g (.tuple ds) v) : ∃ a xs, v = .ref a ∧ SqT K g.H a xs ∧ HasL K g.F ds xs := by
  obtain ⟨a, xs, e, s, l⟩ := Has.tup_inv h
  exact ⟨a, xs, e, seqT_mono w.sub s, l⟩
/-- the tuple itself, as a frozen one -/
theorem Pk.tupF {K : PySem.W.Frag} {g : Gh} {ds : List PyData} {v : V} (h : Pk K g (.tuple ds) v) : ∃ a xs, v = .ref a ∧ g.F a = some (.tup xs) ∧ HasL K g.F ds xs := Has.tup_invX h

def addP : PyData → PyData → R PyData
  | .int i, .int j => .ok (.int (i + j))
  | .int i, .bool b => .ok (.int (i + b2i b))
  | .str x, .str y => if x.length + y.length ≤ LIM then .ok (.str (x ++ y)) else .bad
  | .list a, .list b => if a.length + b.length ≤ LIM then .ok (.list (a ++ b)) else .bad
  | .tuple a, .tuple b => if a.length + b.length ≤ LIM then .ok (.tuple (a ++ b)) else .bad
  | _, _ => .bad
theorem ov_add : OpV X W (binaryOp .Add) addP := by
  refine ⟨_, op_add.or (op_add_ib.or (op_add_str.or (op_catL.or op_catA))), fun ρ st σ g x y v u Q rel hx hy k => ?_⟩
  cases x with
  | int i =>
    cases y with
    | int j => exact .inl ⟨i, j, hx.int, hy.int, okP_fin rel (.int _) k⟩
    | bool b => exact .inr (.inl ⟨i, b, hx.int, hy.bl, okP_fin rel (.int _) k⟩)
    | _ => exact k.elim
  | str i =>
    cases y with
    | str j =>
      simp only [addP] at k
      split at k
      · rename_i hl
        exact .inr (.inr (.inl ⟨i, j, hx.str, hy.str, by rw [lim_eq]; exact hl, okP_fin rel (.str _) k⟩))
      · exact k.elim
    | _ => exact k.elim
  | list a =>
    cases y with
    | list b =>
      simp only [addP] at k
      split at k
      · rename_i hl
        obtain ⟨p, xs, rfl, s1, l1⟩ := hx.lst
        obtain ⟨q, ys, rfl, s2, l2⟩ := hy.lst
        exact .inr (.inr (.inr (.inl ⟨p, q, xs, ys, rfl, rfl, s1, s2, by rw [lim_eq, l1.1, l2.1]; exact hl, okP_newL rel (l1.append l2) k⟩)))
      · exact k.elim
    | _ => exact k.elim
  | tuple a =>
    cases y with
    | tuple b =>
      simp only [addP] at k
      split at k
      · rename_i hl
        obtain ⟨p, xs, rfl, s1, l1⟩ := hx.tupF
        obtain ⟨q, ys, rfl, s2, l2⟩ := hy.tupF
        refine .inr (.inr (.inr (.inr ⟨p, q, xs, ys, rfl, rfl, seqT_mono rel.wd.sub (.inl (.inl s1)), seqT_mono rel.wd.sub (.inl (.inl s2)), by rw [lim_eq, l1.1, l2.1]; exact hl, ?_⟩)))
        refine ⟨fun e => ?_, fun e1 e2 => ?_, fun e1 e2 => okP_newT rel (l1.append l2) k⟩
        · subst e
          have : a = [] := List.eq_nil_of_length_eq_zero (by rw [← l1.1]; rfl)
          subst this
          exact okP_fin rel (.tup' s2 l2) k
        · subst e2
          have : b = [] := List.eq_nil_of_length_eq_zero (by rw [← l2.1]; rfl)
          subst this
          rw [List.append_nil] at k
          exact okP_fin rel (.tup' s1 l1) k
      · exact k.elim
    | _ => exact k.elim
  | _ => exact k.elim

/-- an operation of two ints -/
def intP (C : Int → Int → Prop) [∀ i j, Decidable (C i j)] (g : Int → Int → PyData) : PyData → PyData → R PyData
  | .int i, .int j => if C i j then .ok (g i j) else .bad
  | _, _ => .bad
theorem ov_int {f : Value → Value → Sem Value} {C : Int → Int → Prop} [∀ i j, Decidable (C i j)] {gv : Int → Int → V} {gd : Int → Int → PyData} (h : OpR X f (rI C gv)) (hh : ∀ F i j, Has X.K F (gd i j) (gv i j)) : OpV X W f (intP C gd) := by
  refine ⟨_, h, fun ρ st σ g x y v u Q rel hx hy k => ?_⟩
  cases x with
  | int i =>
    cases y with
    | int j =>
      simp only [intP] at k
      split at k
      · rename_i hc
        exact ⟨i, j, hx.int, hy.int, hc, okP_fin rel (hh _ i j) k⟩
      · exact k.elim
    | _ => exact k.elim
  | _ => exact k.elim
theorem ov_int0 {f : Value → Value → Sem Value} {gv : Int → Int → V} {gd : Int → Int → PyData} (h : OpR X f (rI0 gv)) (hh : ∀ F i j, Has X.K F (gd i j) (gv i j)) : OpV X W f (intP (fun _ _ => True) gd) := by
  refine ⟨_, h, fun ρ st σ g x y v u Q rel hx hy k => ?_⟩
  cases x with
  | int i =>
    cases y with
    | int j =>
      simp only [intP, if_true] at k
      exact ⟨i, j, hx.int, hy.int, okP_fin rel (hh _ i j) k⟩
    | _ => exact k.elim
  | _ => exact k.elim
instance (i j : Int) : Decidable (CDivW i j) := by unfold CDivW; infer_instance
instance (i j : Int) : Decidable (CMulW i j) := by unfold CMulW; infer_instance
instance (i j : Int) : Decidable (CPow i j) := by unfold CPow; infer_instance
abbrev subP := intP (fun _ _ => True) fun i j => .int (i - j)
theorem ov_sub : OpV X W (binaryOp .Sub) subP := ov_int0 op_sub fun _ _ _ => .int _
abbrev fdivP := intP CDivW fun i j => .int (i / j)
theorem ov_fdiv : OpV X W (binaryOp .FloorDiv) fdivP := ov_int op_fdivW fun _ _ _ => .int _
abbrev modP := intP (fun _ j => 0 < j) fun i j => .int (i % j)
theorem ov_mod : OpV X W (binaryOp .Mod) modP := ov_int op_mod fun _ _ _ => .int _
abbrev powP := intP CPow fun i j => .int (i ^ j.toNat)
theorem ov_pow : OpV X W (binaryOp .Pow) powP := ov_int op_pow fun _ _ _ => .int _
abbrev shlP := intP CPow fun i j => .int (i * 2 ^ j.toNat)
theorem ov_shl : OpV X W (binaryOp .LShift) shlP := ov_int op_shl fun _ _ _ => .int _
abbrev shrP := intP (fun _ j => 0 ≤ j) fun i j => .int (i / 2 ^ j.toNat)
theorem ov_shr : OpV X W (binaryOp .RShift) shrP := ov_int op_shr fun _ _ _ => .int _
abbrev xorP := intP (fun _ _ => True) fun i j => .int (Builtin.bitXor i j)
theorem ov_xor : OpV X W (binaryOp .BitXor) xorP := ov_int0 op_xor fun _ _ _ => .int _
abbrev andP := intP (fun _ _ => True) fun i j => .int (Builtin.bitAnd i j)
theorem ov_and : OpV X W (binaryOp .BitAnd) andP := ov_int0 op_and fun _ _ _ => .int _
abbrev orP := intP (fun _ _ => True) fun i j => .int (Builtin.bitOr i j)
theorem ov_or : OpV X W (binaryOp .BitOr) orP := ov_int0 op_or fun _ _ _ => .int _

/-- list times int, any list that is read -/
def rRepL (K : PySem.W.Frag) : R2 := fun x y H Q => ∃ l k xs, x = .ref l ∧ y = .int k ∧ Rd H l (.lst xs) ∧ -(2 ^ 63) ≤ k ∧ k < 2 ^ 63 ∧ xs.length * k.toNat ≤ sizeLine ∧
  ∀ p, H p = none → Q (.ref p) (upd H p (.lst (List.replicate k.toNat xs).flatten))

/-! ### equality, order, in -/
def eqP (neg : Bool) (x y : PyData) : R PyData := if SeqAt.shaped x = true ∧ SeqAt.shaped y = true then .ok (.bool (PyData.eqv x y != neg)) else .bad
theorem canLay_shaped {d : PyData} (h : SeqAt.shaped d = true) : d.canLay0 = true := SeqAt.canLay_of_shaped h
theorem ov_eq (hu : X.A.units + 64 < cLine) : OpV X W (compareOp .Eq) (eqP false) := by
  refine ⟨_, op_eqD hu, fun ρ st σ g x y v u Q rel hx hy k => ?_⟩
  simp only [eqP] at k
  split at k
  · rename_i hs
    refine ⟨x, y, hx.dp rel.wd (canLay_shaped hs.1), hy.dp rel.wd (canLay_shaped hs.2), hs.1, hs.2, okP_fin rel (?_ : Has X.K g.F _ _) k⟩
    rw [Bool.bne_false]; exact .bl _
  · exact k.elim
theorem ov_ne (hu : X.A.units + 64 < cLine) : OpV X W (compareOp .NotEq) (eqP true) := by
  refine ⟨_, op_neD hu, fun ρ st σ g x y v u Q rel hx hy k => ?_⟩
  simp only [eqP] at k
  split at k
  · rename_i hs
    refine ⟨x, y, hx.dp rel.wd (canLay_shaped hs.1), hy.dp rel.wd (canLay_shaped hs.2), hs.1, hs.2, okP_fin rel (?_ : Has X.K g.F _ _) k⟩
    rw [Bool.bne_true]; exact .bl _
  · exact k.elim
/-- by a rule of the library over values that read as data -/
theorem opR_data {op : CmpOp} {C : PyData → PyData → Prop} {g : PyData → PyData → Bool}
    (rule : ∀ (s : Shared) (x y : PyData) (v u : Value) (as bs : List Addr) (Q : Value → Shared → Prop) (E : Value → Shared → Prop), C x y → Reads s.heap v x as → Reads s.heap u y bs → Q (.bool (g x y)) s → wpAny (model X.prog X.w) X.A (compareOp op v u) Q E s) :
    OpR X (compareOp op) (fun v u H Q => ∃ x y, Dp X.K H v x ∧ Dp X.K H u y ∧ C x y ∧ Q (.bl (g x y)) H) := by
  intro pins s σ H v u vv uu Q I rv ru h
  obtain ⟨x, y, hx, hy, hc, q⟩ := h
  obtain ⟨as, r1⟩ := Dp.reads I x v vv hx rv
  obtain ⟨bs, r2⟩ := Dp.reads I y u uu hy ru
  exact rule s x y vv uu as bs _ _ hc r1 r2 ⟨.bl _, H, I, rfl, q⟩
theorem ov_data {op : CmpOp} {C : PyData → PyData → Prop} [∀ x y, Decidable (C x y)] {g : PyData → PyData → Bool} (hC : ∀ x y, C x y → x.canLay0 = true ∧ y.canLay0 = true)
    (rule : ∀ (s : Shared) (x y : PyData) (v u : Value) (as bs : List Addr) (Q : Value → Shared → Prop) (E : Value → Shared → Prop), C x y → Reads s.heap v x as → Reads s.heap u y bs → Q (.bool (g x y)) s → wpAny (model X.prog X.w) X.A (compareOp op v u) Q E s) :
    OpV X W (compareOp op) (fun x y => if C x y then .ok (.bool (g x y)) else .bad) := by
  refine ⟨_, opR_data rule, fun ρ st σ gh x y v u Q rel hx hy k => ?_⟩
  have k : KR (WN X.K W ρ σ gh) (okE X.K ρ σ Q gh) ((if C x y then R.ok (PyData.bool (g x y)) else R.bad) >>= fun d => .ok (.p d, st)) := k
  split at k
  · rename_i hc
    exact ⟨x, y, hx.dp rel.wd (hC x y hc).1, hy.dp rel.wd (hC x y hc).2, hc, okP_fin rel (.bl _) k⟩
  · exact k.elim
/-- an order is asked -/
def isNone : PyData → Bool
  | .none => true
  | _ => false
def OrdOk (x y : PyData) : Prop := (SeqAt.shaped x && SeqAt.shaped y && PySem.W.alike x y && !isNone x) = true
instance (x y : PyData) : Decidable (OrdOk x y) := by unfold OrdOk; infer_instance
theorem OrdOk.all {x y : PyData} (h : OrdOk x y) : SeqAt.shaped x = true ∧ SeqAt.shaped y = true ∧ PySem.W.alike x y = true ∧ x ≠ .none := by
  unfold OrdOk at h
  simp only [Bool.and_eq_true, Bool.not_eq_true'] at h
  refine ⟨h.1.1.1, h.1.1.2, h.1.2, fun e => ?_⟩
  rw [e] at h
  simp [isNone] at h
theorem depth_shaped {d : PyData} (h : SeqAt.shaped d = true) : d.depth ≤ 64 := by
  unfold SeqAt.shaped at h
  simp only [Bool.and_eq_true, decide_eq_true_eq] at h
  exact h.2
theorem OrdOk.lay (x y : PyData) (h : OrdOk x y) : x.canLay0 = true ∧ y.canLay0 = true := ⟨canLay_shaped h.all.1, canLay_shaped h.all.2.1⟩
def ltP (x y : PyData) : R PyData := if OrdOk x y then .ok (.bool (PySem.W.dataLt x y)) else .bad
def gtP (x y : PyData) : R PyData := if OrdOk x y then .ok (.bool (PySem.W.dataLt y x)) else .bad
def leP (x y : PyData) : R PyData := if OrdOk x y then .ok (.bool (!PySem.W.dataLt y x)) else .bad
def geP (x y : PyData) : R PyData := if OrdOk x y then .ok (.bool (!PySem.W.dataLt x y)) else .bad
theorem ov_lt (hu : X.A.units + 64 < cLine) : OpV X W (compareOp .Lt) ltP :=
  ov_data OrdOk.lay fun s x y v u as bs Q E h r1 r2 q => PySem.W.lt_data r1 r2 h.all.2.2.1 h.all.2.2.2 (by have := depth_shaped h.all.1; omega) q
theorem ov_gt (hu : X.A.units + 64 < cLine) : OpV X W (compareOp .Gt) gtP :=
  ov_data OrdOk.lay fun s x y v u as bs Q E h r1 r2 q => PySem.W.gt_data r1 r2 h.all.2.2.1 h.all.2.2.2 (by have := depth_shaped h.all.1; omega) q
theorem ov_le (hu : X.A.units + 64 < cLine) : OpV X W (compareOp .LtE) leP :=
  ov_data OrdOk.lay fun s x y v u as bs Q E h r1 r2 q => PySem.W.le_data r1 r2 h.all.2.2.1 h.all.2.2.2 (by have := depth_shaped h.all.1; omega) q
theorem ov_ge (hu : X.A.units + 64 < cLine) : OpV X W (compareOp .GtE) geP :=
  ov_data OrdOk.lay fun s x y v u as bs Q E h r1 r2 q => PySem.W.ge_data r1 r2 h.all.2.2.1 h.all.2.2.2 (by have := depth_shaped h.all.1; omega) q

/-- x in a list or a tuple -/
def itemsOf : PyData → Option (List PyData)
  | .list xs => some xs
  | .tuple xs => some xs
  | _ => none
def InOk (x c : PyData) : Prop := (SeqAt.shaped x && SeqAt.shaped c && (itemsOf c).isSome) = true
instance (x y : PyData) : Decidable (InOk x y) := by unfold InOk; infer_instance
def inB (x c : PyData) : Bool := ((itemsOf c).getD []).any fun z => PyData.eqv z x
theorem InOk.all {x y : PyData} (h : InOk x y) : SeqAt.shaped x = true ∧ SeqAt.shaped y = true ∧ (itemsOf y).isSome = true := by
  unfold InOk at h
  simp only [Bool.and_eq_true] at h
  exact ⟨h.1.1, h.1.2, h.2⟩
theorem InOk.lay (x y : PyData) (h : InOk x y) : x.canLay0 = true ∧ y.canLay0 = true := ⟨canLay_shaped h.all.1, canLay_shaped h.all.2.1⟩
def inP (x c : PyData) : R PyData := if InOk x c then .ok (.bool (inB x c)) else .bad
def notInP (x c : PyData) : R PyData := if InOk x c then .ok (.bool (!inB x c)) else .bad
theorem ov_in (hu : X.A.units + 65 < cLine) : OpV X W (compareOp .In) inP :=
  ov_data InOk.lay fun s x y v u as bs Q E h r1 r2 q => by
    obtain ⟨h1, h2, h3⟩ := h.all
    cases y with
    | list ds => exact SeqAt.in_list_reads r2 r1 (SeqAt.canLay_of_shaped h2) (SeqAt.canLay_of_shaped h1) (room_in_shaped h1 hu) q
    | tuple ds => exact SeqAt.in_tuple_reads r2 r1 (SeqAt.canLay_of_shaped h2) (SeqAt.canLay_of_shaped h1) (room_in_shaped h1 hu) q
    | _ => simp [itemsOf] at h3
theorem ov_notIn (hu : X.A.units + 65 < cLine) : OpV X W (compareOp .NotIn) notInP :=
  ov_data InOk.lay fun s x y v u as bs Q E h r1 r2 q => by
    obtain ⟨h1, h2, h3⟩ := h.all
    cases y with
    | list ds => exact SeqAt.notIn_list_reads r2 r1 (SeqAt.canLay_of_shaped h2) (SeqAt.canLay_of_shaped h1) (room_in_shaped h1 hu) q
    | tuple ds => exact SeqAt.notIn_tuple_reads r2 r1 (SeqAt.canLay_of_shaped h2) (SeqAt.canLay_of_shaped h1) (room_in_shaped h1 hu) q
    | _ => simp [itemsOf] at h3

/-! ### is -/
theorem Pk.non_iff {K : PySem.W.Frag} {g : Gh} {d : PyData} {v : V} (h : Pk K g d v) : decide (v = .non) = isNone d := by
  cases d with
  | none => rw [Has.non_inv h]; rfl
  | bool b => rw [Has.bl_inv h]; rfl
  | int b => rw [Has.int_inv h]; rfl
  | str b => rw [Has.str_inv h]; rfl
  | tuple b => obtain ⟨a, xs, rfl, _⟩ := Has.tup_inv h; rfl
  | list b => obtain ⟨a, xs, rfl, _⟩ := h; rfl
  | dict b => obtain ⟨a, rfl, _⟩ := h; rfl
/-- is None; is of two truth values -/
def isP (neg : Bool) : PyData → PyData → R PyData
  | x, .none => .ok (.bool (isNone x != neg))
  | .bool a, .bool b => .ok (.bool (decide (a = b) != neg))
  | _, _ => .bad
theorem ov_is : OpV X W (compareOp .Is) (isP false) := by
  refine ⟨_, op_isN.or op_isBl, fun ρ st σ g x y v u Q rel hx hy k => ?_⟩
  cases y with
  | none =>
    refine .inl ⟨hy.non, okP_fin rel (?_ : Has X.K g.F _ _) k⟩
    rw [hx.non_iff, Bool.bne_false]; exact .bl _
  | bool b =>
    cases x with
    | bool a => exact .inr ⟨a, b, hx.bl, hy.bl, okP_fin rel (by rw [Bool.bne_false]; exact .bl _) k⟩
    | _ => exact k.elim
  | _ => cases x <;> exact k.elim
theorem ov_isNot : OpV X W (compareOp .IsNot) (isP true) := by
  refine ⟨_, op_notN.or op_notBl, fun ρ st σ g x y v u Q rel hx hy k => ?_⟩
  cases y with
  | none =>
    refine .inl ⟨hy.non, okP_fin rel (?_ : Has X.K g.F _ _) k⟩
    rw [hx.non_iff, Bool.bne_true]; exact .bl _
  | bool b =>
    cases x with
    | bool a => exact .inr ⟨a, b, hx.bl, hy.bl, okP_fin rel (by rw [Bool.bne_true]; exact .bl _) k⟩
    | _ => exact k.elim
  | _ => cases x <;> exact k.elim
end
end VL

namespace VL
open PySem PySem.Spec PyProof.Rows L2
section
variable {X : Cx} {W : Wish}

/-! ### a value, then an operation upon what it holds -/
/-- an operation upon one value: r is its reading by values, o its meaning -/
def UnV (X : Cx) (W : Wish) (r : V → Hp → VK → Prop) (o : PyData → R PyData) : Prop :=
  ∀ (ρ : Slots) (st : Store) (σ : L2.St) (g : Gh) (x : PyData) (v : V) (Q : VK), Rel X.K ρ st σ g → Pk X.K g x v → KR (WN X.K W ρ σ g) (okE X.K ρ σ Q g) (o x >>= fun d => .ok (.p d, st)) → r v g.H Q
def vUn (o : PyData → R PyData) (f : FE) : FE := fun ρ st => f ρ st >>= fun a => peek a.2 a.1 >>= fun x => o x >>= fun d => .ok (.p d, a.2)
theorem peek_exc {st : Store} {x : Vd} {n : Str} {s : Store} : peek st x ≠ .exc n s := by
  cases x with
  | p d => simp [peek]
  | loc k => simp only [peek]; split <;> simp
theorem un_run {r : V → Hp → VK → Prop} {o : PyData → R PyData} {e : Expr} {f : FE} (ho : UnV X W r o) (ha : VE X W e f) :
    ∃ t, PE X e t ∧ ∀ ρ st σ g Q, Rel X.K ρ st σ g → KE X.K W ρ σ g Q (vUn o f ρ st) → t σ g.H fun v H1 => r v H1 Q := by
  obtain ⟨t, pe, run⟩ := ha.run
  refine ⟨t, pe, fun ρ st σ g Q rel k => ?_⟩
  refine run ρ st σ g _ (okE X.K ρ σ Q) _ okE.goes rel k fun d1 st1 v1 g1 e1 r1 h1 k1 => ?_
  cases p1 : peek st1 d1 with
  | bad => rw [p1] at k1; exact k1.elim
  | exc n s => exact (peek_exc p1).elim
  | ok x =>
    simp only [p1] at k1
    exact ho ρ st1 σ g1 x v1 Q r1 (pk_of r1.wd h1 p1) k1
def negP : PyData → R PyData
  | .int i => .ok (.int (-i))
  | _ => .bad
theorem ve_neg {e : Expr} {f : FE} {pos : Pos} (h : VE X W e f) : VE X W (.UnaryOp .USub e pos) (vUn negP f) := by
  have ho : UnV X W (rU fun i => .int (-i)) negP := fun ρ st σ g x v Q rel hx k => by
    cases x with
    | int i => exact ⟨i, hx.int, okP_fin rel (.int _) k⟩
    | _ => exact k.elim
  obtain ⟨t, pe, run⟩ := un_run ho h
  exact ⟨_, pe_un un_neg pe, run⟩

/-! ### tests -/
def tC0 (b : Bool) : FT := fun _ st => .ok (b, st)
/-- a value's truth -/
def truP : PyData → R Bool
  | .none => .ok false
  | .bool b => .ok b
  | .int i => .ok (i != 0)
  | .str x => if x.length ≤ LIM then .ok ((x.length : Int) != 0) else .bad
  | .list xs => .ok (!xs.isEmpty)
  | .tuple xs => .ok (!xs.isEmpty)
  | .dict _ => .bad
def vTru (f : FE) : FT := fun ρ st => f ρ st >>= fun a => peek a.2 a.1 >>= fun x => truP x >>= fun b => .ok (b, a.2)
/-- a value known to be a truth value, as a test -/
theorem vt_val {e : Expr} {f : FE} (h : VE X W e f) (he : ∀ whole, isTrue e X.env whole = (do let v ← whole; standAt e.pos; holding [v] (truthy v)) := by intro _; rfl) : VT X W e (asB f) := by
  obtain ⟨t, pe, run⟩ := h
  refine ⟨_, pt_val pe he, fun ρ st σ g Q rel kr => run ρ st σ g _ rel ?_⟩
  refine KR.mono (KR.bind kr) (fun z hz v g' e r' hv => ?_) fun n s hn => hn
  obtain ⟨d, st'⟩ := z
  cases d with
  | loc _ => exact hz.elim
  | p d =>
    cases d with
    | bool b => exact ⟨b, hv.bl_inv, hz g' e r'⟩
    | _ => exact hz.elim
def tNot (f : FT) : FT := fun ρ st => f ρ st >>= fun a => .ok (!a.1, a.2)
theorem vt_not {e : Expr} {f : FT} {pos : Pos} (h : VT X W e f) : VT X W (.UnaryOp .Not e pos) (tNot f) := by
  obtain ⟨t, pe, run⟩ := h.run
  refine ⟨_, pt_not pe, fun ρ st σ g Q rel kr => ?_⟩
  exact run ρ st σ g _ (okT X.K ρ σ Q) _ okT.goes rel kr fun d1 st1 g1 e1 r1 k1 => k1 g1 (Ext.refl g1) r1
def vAnd (f h : FT) : FT := fun ρ st => f ρ st >>= fun a => if a.1 = true then h ρ a.2 else .ok (false, a.2)
def vOr (f h : FT) : FT := fun ρ st => f ρ st >>= fun a => if a.1 = true then .ok (true, a.2) else h ρ a.2
theorem vw_and1 {a : Expr} {f : FT} {pos : Pos} (h : VT X W a f) : VWt X W (.BoolOp .And [a] pos) f := let ⟨t, p, r⟩ := h; ⟨t, pw_and1 p, r⟩
theorem vw_or1 {a : Expr} {f : FT} {pos : Pos} (h : VT X W a f) : VWt X W (.BoolOp .Or [a] pos) f := let ⟨t, p, r⟩ := h; ⟨t, pw_or1 p, r⟩
theorem vw_and {a b : Expr} {rest : List Expr} {f h : FT} {pos : Pos} (ha : VT X W a f) (hb : VWt X W (.BoolOp .And (b :: rest) pos) h) : VWt X W (.BoolOp .And (a :: b :: rest) pos) (vAnd f h) := by
  obtain ⟨t, p, run⟩ := ha.run
  obtain ⟨u, q, run2⟩ := hb
  refine ⟨_, pw_and p q, fun ρ st σ g Q rel kr => ?_⟩
  refine run ρ st σ g _ (okT X.K ρ σ Q) _ okT.goes rel kr fun d1 st1 g1 e1 r1 k1 => ?_
  cases d1 with
  | true => rw [if_pos rfl] at k1 ⊢; exact run2 ρ st1 σ g1 Q r1 k1
  | false => exact k1 g1 (Ext.refl g1) r1
theorem vw_or {a b : Expr} {rest : List Expr} {f h : FT} {pos : Pos} (ha : VT X W a f) (hb : VWt X W (.BoolOp .Or (b :: rest) pos) h) : VWt X W (.BoolOp .Or (a :: b :: rest) pos) (vOr f h) := by
  obtain ⟨t, p, run⟩ := ha.run
  obtain ⟨u, q, run2⟩ := hb
  refine ⟨_, pw_or p q, fun ρ st σ g Q rel kr => ?_⟩
  refine run ρ st σ g _ (okT X.K ρ σ Q) _ okT.goes rel kr fun d1 st1 g1 e1 r1 k1 => ?_
  cases d1 with
  | true => exact k1 g1 (Ext.refl g1) r1
  | false => exact run2 ρ st1 σ g1 Q r1 k1
/-- and, or, not as values: of truth values -/
def vAndV (f h : FE) : FE := fun ρ st => asB f ρ st >>= fun a => if a.1 = true then h ρ a.2 else .ok (.p (.bool false), a.2)
def vOrV (f h : FE) : FE := fun ρ st => asB f ρ st >>= fun a => if a.1 = true then .ok (.p (.bool true), a.2) else h ρ a.2
theorem asB_run {e : Expr} {f : FE} (h : VE X W e f) : ∃ t, PE X e t ∧ ∀ {β : Type} (ρ : Slots) (st : Store) (σ : L2.St) (g : Gh) (P : VK) (ok : Gh → β → Prop) (k : Bool × Store → R β), Goes ok → Rel X.K ρ st σ g →
    KR (WN X.K W ρ σ g) (ok g) (asB f ρ st >>= k) →
    (∀ d st1 g1, Ext g g1 → Rel X.K ρ st1 σ g1 → KR (WN X.K W ρ σ g1) (ok g1) (k (d, st1)) → P (.bl d) g1.H) → t σ g.H P := by
  obtain ⟨t, pe, run⟩ := h.run
  refine ⟨t, pe, fun {β} ρ st σ g P ok k go rel kr hP => ?_⟩
  have e : (asB f ρ st >>= k) = (f ρ st >>= fun a => (match a.1 with | .p (.bool b) => R.ok (b, a.2) | _ => R.bad) >>= k) := by
    unfold asB
    cases f ρ st <;> rfl
  rw [e] at kr
  refine run ρ st σ g P ok _ go rel kr fun d st1 v g1 e1 r1 h1 k1 => ?_
  cases d with
  | loc _ => exact k1.elim
  | p d =>
    cases d with
    | bool b => rw [show v = .bl b from Has.bl_inv h1]; exact hP b st1 g1 e1 r1 k1
    | _ => exact k1.elim
theorem ve_one {a : Expr} {op} {f : FE} {pos : Pos} (h : VE X W a f) : VE X W (.BoolOp op [a] pos) f := let ⟨t, p, r⟩ := h; ⟨t, pe_one p, r⟩
theorem ve_and {a b : Expr} {rest : List Expr} {f h : FE} {pos : Pos} (ha : VE X W a f) (hb : VE X W (.BoolOp .And (b :: rest) pos) h) : VE X W (.BoolOp .And (a :: b :: rest) pos) (vAndV f h) := by
  obtain ⟨t, p, run⟩ := asB_run ha
  obtain ⟨u, q, run2⟩ := hb
  refine ⟨_, pe_and p q, fun ρ st σ g Q rel kr => ?_⟩
  refine run ρ st σ g _ (okE X.K ρ σ Q) _ okE.goes rel kr fun d1 st1 g1 e1 r1 k1 => ⟨d1, rfl, ?_⟩
  cases d1 with
  | true => rw [if_pos rfl] at k1 ⊢; exact run2 ρ st1 σ g1 Q r1 k1
  | false => rw [if_neg Bool.false_ne_true]; exact k1 _ g1 (Ext.refl g1) r1 (.bl false)
theorem ve_or {a b : Expr} {rest : List Expr} {f h : FE} {pos : Pos} (ha : VE X W a f) (hb : VE X W (.BoolOp .Or (b :: rest) pos) h) : VE X W (.BoolOp .Or (a :: b :: rest) pos) (vOrV f h) := by
  obtain ⟨t, p, run⟩ := asB_run ha
  obtain ⟨u, q, run2⟩ := hb
  refine ⟨_, pe_or p q, fun ρ st σ g Q rel kr => ?_⟩
  refine run ρ st σ g _ (okE X.K ρ σ Q) _ okE.goes rel kr fun d1 st1 g1 e1 r1 k1 => ⟨d1, rfl, ?_⟩
  cases d1 with
  | true => rw [if_pos rfl]; exact k1 _ g1 (Ext.refl g1) r1 (.bl true)
  | false => rw [if_neg Bool.false_ne_true] at k1 ⊢; exact run2 ρ st1 σ g1 Q r1 k1
def vNotV (f : FE) : FE := fun ρ st => asB f ρ st >>= fun a => .ok (.p (.bool (!a.1)), a.2)
theorem ve_not {a : Expr} {f : FE} {pos : Pos} (ha : VE X W a f) : VE X W (.UnaryOp .Not a pos) (vNotV f) := by
  obtain ⟨t, p, run⟩ := asB_run ha
  refine ⟨_, pe_not p, fun ρ st σ g Q rel kr => ?_⟩
  exact run ρ st σ g _ (okE X.K ρ σ Q) _ okE.goes rel kr fun d1 st1 g1 e1 r1 k1 => ⟨d1, rfl, k1 _ g1 (Ext.refl g1) r1 (.bl _)⟩
def vIf (c : FT) (f h : FE) : FE := fun ρ st => c ρ st >>= fun a => if a.1 = true then f ρ a.2 else h ρ a.2
theorem ve_if {c a b : Expr} {fc : FT} {f h : FE} {pos : Pos} (hc : VT X W c fc) (ha : VE X W a f) (hb : VE X W b h) : VE X W (.IfExp c a b pos) (vIf fc f h) := by
  obtain ⟨t, p, run⟩ := hc.run
  obtain ⟨ta, qa, ra⟩ := ha
  obtain ⟨tb, qb, rb⟩ := hb
  refine ⟨_, pe_ifExp p qa qb, fun ρ st σ g Q rel kr => ?_⟩
  refine run ρ st σ g _ (okE X.K ρ σ Q) _ okE.goes rel kr fun d1 st1 g1 e1 r1 k1 => ?_
  cases d1 with
  | true => rw [if_pos rfl] at k1 ⊢; exact ra ρ st1 σ g1 Q r1 k1
  | false => rw [if_neg Bool.false_ne_true] at k1 ⊢; exact rb ρ st1 σ g1 Q r1 k1

/-! ### a < b < c -/
def vChain (o o' : PyData → PyData → R PyData) (f h k : FE) : FE := fun ρ st => f ρ st >>= fun a => h ρ a.2 >>= fun b => peek b.2 a.1 >>= fun x => peek b.2 b.1 >>= fun y => o x y >>= fun d => match d with
  | .bool true => k ρ b.2 >>= fun c => peek c.2 b.1 >>= fun y' => peek c.2 c.1 >>= fun z => o' y' z >>= fun d => .ok (.p d, c.2)
  | .bool false => .ok (.p (.bool false), b.2)
  | _ => .bad
theorem op_exc {α : Type} {r : R α} (h : ∀ n s, r ≠ .exc n s) : (∃ a, r = .ok a) ∨ r = .bad := by
  cases r with
  | ok a => exact .inl ⟨a, rfl⟩
  | exc n s => exact (h n s rfl).elim
  | bad => exact .inr rfl
theorem peek_bind {β : Type} {ne : Str → Store → Prop} {ok : β → Prop} {st : Store} {x : Vd} {k : PyData → R β} (h : KR ne ok (peek st x >>= k)) : ∃ d, peek st x = .ok d ∧ KR ne ok (k d) := by
  rcases op_exc (r := peek st x) (fun n s => peek_exc) with ⟨d, e⟩ | e
  · rw [e] at h; exact ⟨d, e, h⟩
  · rw [e] at h; exact h.elim
theorem chain_run {r r' : R2} {o o' : PyData → PyData → R PyData} {a b c : Expr} {f h k : FE}
    (ho : ∀ (ρ : Slots) (st : Store) (σ : L2.St) (g : Gh) (x y : PyData) (v u : V) (Q : VK), Rel X.K ρ st σ g → Pk X.K g x v → Pk X.K g y u → KR (WN X.K W ρ σ g) (okE X.K ρ σ Q g) (o x y >>= fun d => .ok (.p d, st)) → r v u g.H Q)
    (ho' : ∀ (ρ : Slots) (st : Store) (σ : L2.St) (g : Gh) (x y : PyData) (v u : V) (Q : VK), Rel X.K ρ st σ g → Pk X.K g x v → Pk X.K g y u → KR (WN X.K W ρ σ g) (okE X.K ρ σ Q g) (o' x y >>= fun d => .ok (.p d, st)) → r' v u g.H Q)
    (hn : ∀ x y n s, o x y ≠ .exc n s) (ha : VE X W a f) (hb : VE X W b h) (hc : VE X W c k) :
    ∃ ta tb tc, PE X a ta ∧ PE X b tb ∧ PE X c tc ∧ ∀ ρ st σ g Q, Rel X.K ρ st σ g → KE X.K W ρ σ g Q (vChain o o' f h k ρ st) → tChain r r' ta tb tc σ g.H Q := by
  obtain ⟨ta, pa, ra⟩ := ha.run
  obtain ⟨tb, pb, rb⟩ := hb.run
  obtain ⟨tc, pc, rc⟩ := hc.run
  refine ⟨ta, tb, tc, pa, pb, pc, fun ρ st σ g Q rel kr => ?_⟩
  refine ra ρ st σ g _ (okE X.K ρ σ Q) _ okE.goes rel kr fun d1 st1 v1 g1 e1 r1 h1 k1 => ?_
  refine rb ρ st1 σ g1 _ (okE X.K ρ σ Q) _ okE.goes r1 k1 fun d2 st2 v2 g2 e2 r2 h2 k2 => ?_
  obtain ⟨x, px, k3⟩ := peek_bind k2
  obtain ⟨y, py, k4⟩ := peek_bind k3
  rcases op_exc (hn x y) with ⟨d, ed⟩ | ed
  · refine ho ρ st2 σ g2 x y v1 v2 _ r2 (pk_of r2.wd (h1.ext e2) px) (pk_of r2.wd h2 py) ?_
    simp only [ed] at k4 ⊢
    intro v g' e' r3 hv
    cases d with
    | bool b =>
      have hv : Has X.K g'.F (.bool b) v := hv
      refine ⟨b, hv.bl_inv, ?_⟩
      cases b with
      | true =>
        simp only [R.ok_bind] at k4
        have k4 : KR (WN X.K W ρ σ g2) (okE X.K ρ σ Q g2) (k ρ st2 >>= fun c => peek c.2 d2 >>= fun y' => peek c.2 c.1 >>= fun z => o' y' z >>= fun d => .ok (.p d, c.2)) := k4
        have k5 := KR.mono k4 (fun b hb => okE.goes g2 g' b e' hb) fun n s hn => hn.ext e'
        rw [if_pos rfl]
        refine rc ρ st2 σ g' _ (okE X.K ρ σ Q) _ okE.goes r3 k5 fun d3 st3 v3 g3 e3 r4 h3 k6 => ?_
        obtain ⟨y', py', k7⟩ := peek_bind k6
        obtain ⟨z, pz, k8⟩ := peek_bind k7
        exact ho' ρ st3 σ g3 y' z v2 v3 Q r4 (pk_of r4.wd ((h2.ext e').ext e3) py') (pk_of r4.wd h3 pz) k8
      | false =>
        rw [if_neg Bool.false_ne_true]
        exact k4 (.bl false) g' e' r3 (Has.bl false)
    | _ => exact k4.elim
  · simp only [ed] at k4; exact k4.elim
theorem ve_chain {op op' : CmpOp} {o o' : PyData → PyData → R PyData} {a b c : Expr} {f h k : FE} {pos : Pos} (ho : OpV X W (compareOp op) o) (ho' : OpV X W (compareOp op') o') (hn : ∀ x y n s, o x y ≠ .exc n s)
    (ha : VE X W a f) (hb : VE X W b h) (hc : VE X W c k) (hm : lastMarks [op, op'] [b, c] = false := by with_unfolding_all rfl) : VE X W (.Compare a [op, op'] [b, c] pos) (vChain o o' f h k) := by
  obtain ⟨r, h1, h2⟩ := ho
  obtain ⟨r', h3, h4⟩ := ho'
  obtain ⟨ta, tb, tc, pa, pb, pc, run⟩ := chain_run h2 h4 hn ha hb hc
  exact ⟨_, pe_chain h1 h3 pa pb pc hm, run⟩
theorem vt_chain {op op' : CmpOp} {o o' : PyData → PyData → R PyData} {a b c : Expr} {f h k : FE} {pos : Pos} (ho : OpV X W (compareOp op) o) (ho' : OpV X W (compareOp op') o') (hn : ∀ x y n s, o x y ≠ .exc n s)
    (ha : VE X W a f) (hb : VE X W b h) (hc : VE X W c k) (hm : lastMarks [op, op'] [b, c] = false := by with_unfolding_all rfl) : VT X W (.Compare a [op, op'] [b, c] pos) (asB (vChain o o' f h k)) := by
  obtain ⟨r, h1, h2⟩ := ho
  obtain ⟨r', h3, h4⟩ := ho'
  obtain ⟨ta, tb, tc, pa, pb, pc, run⟩ := chain_run h2 h4 hn ha hb hc
  refine ⟨_, pt_chain h1 h3 pa pb pc hm, fun ρ st σ g Q rel kr => run ρ st σ g _ rel ?_⟩
  refine KR.mono (KR.bind kr) (fun z hz v g' e r' hv => ?_) fun n s hn => hn
  obtain ⟨d, st'⟩ := z
  cases d with
  | loc _ => exact hz.elim
  | p d =>
    cases d with
    | bool b => exact ⟨b, hv.bl_inv, hz g' e r'⟩
    | _ => exact hz.elim
theorem lt_nx (x y : PyData) (n : Str) (s : Store) : ltP x y ≠ .exc n s := by unfold ltP; split <;> simp
theorem le_nx (x y : PyData) (n : Str) (s : Store) : leP x y ≠ .exc n s := by unfold leP; split <;> simp
theorem gt_nx (x y : PyData) (n : Str) (s : Store) : gtP x y ≠ .exc n s := by unfold gtP; split <;> simp
theorem ge_nx (x y : PyData) (n : Str) (s : Store) : geP x y ≠ .exc n s := by unfold geP; split <;> simp
theorem eq_nx (b : Bool) (x y : PyData) (n : Str) (s : Store) : eqP b x y ≠ .exc n s := by unfold eqP; split <;> simp

/-! ### truth of anything -/
theorem Pk.tru {K : PySem.W.Frag} {st : Store} {g : Gh} (w : Wd K st g) {d : PyData} {v : V} {b : Bool} (h : Pk K g d v) (e : truP d = .ok b) : TruV K v g.H b := by
  cases d with
  | none => cases e; rw [Has.non_inv h]; rfl
  | bool c => cases e; rw [Has.bl_inv h]; rfl
  | int i => cases e; rw [Has.int_inv h]; rfl
  | str x =>
    simp only [truP] at e
    split at e
    · rename_i hl
      cases e
      rw [Has.str_inv h]
      exact ⟨by rw [lim_eq]; exact hl, rfl⟩
    · cases e
  | list xs =>
    cases e
    obtain ⟨a, vs, rfl, s, l⟩ := h
    refine .inl ⟨vs, s, ?_⟩
    cases xs with
    | nil => rw [l.nil_inv]; rfl
    | cons x r => obtain ⟨v, r', e, _⟩ := l.uncons; rw [e]; rfl
  | tuple xs =>
    cases e
    obtain ⟨a, vs, rfl, s, l⟩ := Pk.tup w h
    refine .inr (.inl ⟨vs, s, ?_⟩)
    cases xs with
    | nil => rw [l.nil_inv]; rfl
    | cons x r => obtain ⟨v, r', e, _⟩ := l.uncons; rw [e]; rfl
  | dict xs =>
    cases e
theorem vt_tru {e : Expr} {f : FE} (h : VE X W e f) (he : ∀ whole, isTrue e X.env whole = (do let v ← whole; standAt e.pos; holding [v] (truthy v)) := by intro _; rfl) : VT X W e (vTru f) := by
  obtain ⟨t, pe, run⟩ := h.run
  refine ⟨_, pt_truth pe he, fun ρ st σ g Q rel kr => ?_⟩
  refine run ρ st σ g _ (okT X.K ρ σ Q) _ okT.goes rel kr fun d1 st1 v g1 e1 r1 h1 k1 => ?_
  obtain ⟨x, px, k2⟩ := peek_bind k1
  cases et : truP x with
  | ok b => simp only [et] at k2; exact ⟨b, (pk_of r1.wd h1 px).tru r1.wd et, k2 g1 (Ext.refl g1) r1⟩
  | exc n s => cases x <;> simp only [truP] at et <;> (try split at et) <;> cases et
  | bad => simp only [et] at k2; exact k2.elim

/-! ### many expressions; displays -/
def aNil : FA := fun _ st => .ok ([], st)
def aCons (f : FE) (r : FA) : FA := fun ρ st => f ρ st >>= fun a => r ρ a.2 >>= fun b => .ok (a.1 :: b.1, b.2)
theorem HasVL.cons {K : PySem.W.Frag} {g : Gh} {d : Vd} {ds : List Vd} {v : V} {xs : List V} (h : HasV K g d v) (t : HasVL K g ds xs) : HasVL K g (d :: ds) (v :: xs) := by
  refine ⟨by simp [t.1], fun i e w he hw => ?_⟩
  cases i with
  | zero => simp at he hw; subst he; subst hw; exact h
  | succ i => exact t.2 i e w (by simpa using he) (by simpa using hw)
theorem HasVL.nil {K : PySem.W.Frag} {g : Gh} : HasVL K g [] [] := ⟨rfl, fun i d v h => by simp at h⟩
theorem HasVL.uncons {K : PySem.W.Frag} {g : Gh} {d : Vd} {ds : List Vd} {xs : List V} (t : HasVL K g (d :: ds) xs) : ∃ v r, xs = v :: r ∧ HasV K g d v ∧ HasVL K g ds r := by
  cases xs with
  | nil => exact absurd t.1 (by simp)
  | cons v r => exact ⟨v, r, rfl, t.2 0 d v rfl rfl, by simpa using t.1, fun i e w he hw => t.2 (i + 1) e w (by simpa using he) (by simpa using hw)⟩
theorem HasVL.nil_inv {K : PySem.W.Frag} {g : Gh} {xs : List V} (t : HasVL K g [] xs) : xs = [] := List.eq_nil_of_length_eq_zero t.1
theorem HasVL.ext {K : PySem.W.Frag} {g g' : Gh} (e : Ext g g') {ds : List Vd} {xs : List V} (h : HasVL K g ds xs) : HasVL K g' ds xs := ⟨h.1, fun i d v a b => (h.2 i d v a b).ext e⟩
theorem va_nil : VA X W [] aNil := ⟨_, pa_nil, fun ρ st σ g Q rel k => k [] g (Ext.refl g) rel .nil⟩
theorem va_cons {e : Expr} {es : List Expr} {f : FE} {r : FA} (h : VE X W e f) (t : VA X W es r) (hs : starEach (e :: es) X.env = (false, eval e X.env) :: starEach es X.env := by rfl) : VA X W (e :: es) (aCons f r) := by
  obtain ⟨te, pe, run⟩ := h.run
  obtain ⟨tr, pr, run2⟩ := t.run
  refine ⟨_, pa_cons pe pr hs, fun ρ st σ g Q rel k => ?_⟩
  refine run ρ st σ g _ (okA X.K ρ σ Q) _ okA.goes rel k fun d1 st1 v1 g1 e1 r1 h1 k1 => ?_
  refine run2 ρ st1 σ g1 _ (okA X.K ρ σ Q) _ okA.goes r1 k1 fun d2 st2 v2 g2 e2 r2 h2 k2 => ?_
  exact k2 _ g2 (Ext.refl g2) r2 (.cons (h1.ext e2) h2)
/-- all for good -/
def frzL : List Vd → Store → R (List PyData × Store)
  | [], st => .ok ([], st)
  | d :: ds, st => frz st d >>= fun a => frzL ds a.2 >>= fun b => .ok (a.1 :: b.1, b.2)
theorem frz_exc {st : Store} {x : Vd} {n : Str} {s : Store} : frz st x ≠ .exc n s := by
  cases x with
  | p d => simp [frz]
  | loc k => simp only [frz]; split <;> simp
theorem frz_bind {β : Type} {ne : Str → Store → Prop} {ok : β → Prop} {st : Store} {x : Vd} {k : PyData × Store → R β} (h : KR ne ok (frz st x >>= k)) : ∃ d, frz st x = .ok d ∧ KR ne ok (k d) := by
  rcases op_exc (r := frz st x) (fun n s => frz_exc) with ⟨d, e⟩ | e
  · rw [e] at h; exact ⟨d, e, h⟩
  · rw [e] at h; exact h.elim
theorem frzL_ok {K : PySem.W.Frag} {ρ : Slots} {σ : L2.St} : ∀ {ds : List Vd} {st st' : Store} {g : Gh} {vs : List V} {xs : List PyData}, Rel K ρ st σ g → HasVL K g ds vs → frzL ds st = .ok (xs, st') → ∃ g', g'.H = g.H ∧ Ext g g' ∧ Rel K ρ st' σ g' ∧ HasL K g'.F xs vs
  | [], st, st', g, vs, xs, r, h, e => by
    cases e
    rw [h.nil_inv]
    exact ⟨g, rfl, Ext.refl g, r, .nil⟩
  | d :: ds, st, st', g, vs, xs, r, h, e => by
    obtain ⟨v, vr, rfl, h1, h2⟩ := h.uncons
    simp only [frzL] at e
    cases e1 : frz st d with
    | bad => rw [e1] at e; cases e
    | exc n s => exact (frz_exc e1).elim
    | ok a =>
      rw [e1] at e
      simp only [R.ok_bind] at e
      obtain ⟨g1, q1, x1, r1, k1⟩ := frz_ok r h1 (st' := a.2) (d := a.1) e1
      cases e2 : frzL ds a.2 with
      | bad => rw [e2] at e; cases e
      | exc n s => rw [e2] at e; cases e
      | ok b =>
        rw [e2] at e
        cases e
        obtain ⟨g2, q2, x2, r2, k2⟩ := frzL_ok r1 (h2.ext x1) (xs := b.1) (st' := b.2) e2
        exact ⟨g2, q2.trans q1, x1.trans x2, r2, .cons (k1.ext x2) k2⟩
theorem frzL_exc : ∀ {ds : List Vd} {st : Store} {n : Str} {s : Store}, frzL ds st ≠ .exc n s
  | [], st, n, s => by simp [frzL]
  | d :: ds, st, n, s => by
    simp only [frzL]
    cases e1 : frz st d with
    | bad => simp
    | exc m s => exact (frz_exc e1).elim
    | ok a =>
      simp only [R.ok_bind]
      cases e2 : frzL ds a.2 with
      | bad => simp
      | exc m s => exact (frzL_exc e2).elim
      | ok b => simp
/-- the arguments for good -/
def fzA (f : FA) : Slots → Store → R (List PyData × Store) := fun ρ st => f ρ st >>= fun a => frzL a.1 a.2
theorem VA.fz {es : List Expr} {f : FA} (h : VA X W es f) : ∃ t, PA X es t ∧ ∀ {β : Type} (ρ : Slots) (st : Store) (σ : L2.St) (g : Gh) (P : List V → Hp → Prop) (ok : Gh → β → Prop) (k : List PyData × Store → R β), Goes ok → Rel X.K ρ st σ g →
    KR (WN X.K W ρ σ g) (ok g) (fzA f ρ st >>= k) →
    (∀ ds st1 vs g1, Ext g g1 → Rel X.K ρ st1 σ g1 → HasL X.K g1.F ds vs → KR (WN X.K W ρ σ g1) (ok g1) (k (ds, st1)) → P vs g1.H) → t σ g.H P := by
  obtain ⟨t, pa, run⟩ := h.run
  refine ⟨t, pa, fun {β} ρ st σ g P ok k go rel kr hP => ?_⟩
  have e : (fzA f ρ st >>= k) = (f ρ st >>= fun a => frzL a.1 a.2 >>= k) := by
    unfold fzA
    cases f ρ st <;> rfl
  rw [e] at kr
  refine run ρ st σ g P ok _ go rel kr fun d1 st1 v1 g1 e1 r1 h1 k1 => ?_
  cases e2 : frzL d1 st1 with
  | bad => simp only [e2] at k1; exact k1.elim
  | exc n s => exact (frzL_exc e2).elim
  | ok b =>
    simp only [e2] at k1
    obtain ⟨g2, q2, x2, r2, k2⟩ := frzL_ok r1 h1 (xs := b.1) (st' := b.2) e2
    rw [← q2]
    exact hP b.1 b.2 v1 g2 (e1.trans x2) r2 k2 (KR.mono k1 (fun b hb => go g1 g2 b x2 hb) fun n s hn => hn.ext x2)
def vTup (f : FA) : FE := fun ρ st => fzA f ρ st >>= fun a => if a.1.length ≤ LIM then .ok (.p (.tuple a.1), a.2) else .bad
def vLst (f : FA) : FE := fun ρ st => fzA f ρ st >>= fun a => if a.1.length ≤ LIM then .ok (.p (.list a.1), a.2) else .bad
theorem ve_tup {es : List Expr} {f : FA} {x1 pos} (h : VA X W es f) : VE X W (.Tuple es x1 pos) (vTup f) := by
  obtain ⟨t, pa, run⟩ := h.fz
  refine ⟨_, pe_tup pa, fun ρ st σ g Q rel k => ?_⟩
  refine run ρ st σ g _ (okE X.K ρ σ Q) _ okE.goes rel k fun ds st1 vs g1 e1 r1 h1 k1 => ?_
  split at k1
  · rename_i hl
    exact ⟨by rw [lim_eq, h1.1]; exact hl, okP_newT r1 h1 k1⟩
  · exact k1.elim
theorem ve_lst {es : List Expr} {f : FA} {pos} (h : VA X W es f) : VE X W (.List es pos) (vLst f) := by
  obtain ⟨t, pa, run⟩ := h.fz
  refine ⟨_, pe_lst pa, fun ρ st σ g Q rel k => ?_⟩
  refine run ρ st σ g _ (okE X.K ρ σ Q) _ okE.goes rel k fun ds st1 vs g1 e1 r1 h1 k1 => ?_
  split at k1
  · rename_i hl
    exact ⟨by rw [lim_eq, h1.1]; exact hl, okP_newL r1 h1 k1⟩
  · exact k1.elim

/-! ### x[i] -/
/-- an operation upon two values that hands out a thing that was there -/
def IxV (X : Cx) (W : Wish) (o : PyData → PyData → R PyData) : Prop :=
  ∃ r, IxR X r ∧ ∀ (ρ : Slots) (st : Store) (σ : L2.St) (g : Gh) (x y : PyData) (v u : V) (Q : VK), Rel X.K ρ st σ g → Pk X.K g x v → Pk X.K g y u →
    KR (WN X.K W ρ σ g) (okE X.K ρ σ Q g) (o x y >>= fun d => .ok (.p d, st)) → r v u g.H Q
theorem ve_ix {o : PyData → PyData → R PyData} {a b : Expr} {f h : FE} {pos : Pos} (ho : IxV X W o) (ha : VE X W a f) (hb : VE X W b h) (hs : PlainIx b := by intro _ _; rfl) : VE X W (.Subscript a b pos) (vBin o f h) := by
  obtain ⟨r, h1, h2⟩ := ho
  obtain ⟨ta, tb, pa, pb, k⟩ := bin_run h2 ha hb
  exact ⟨_, pe_ix h1 pa pb hs, k⟩
def optR {α : Type} : Option α → R α
  | some a => .ok a
  | none => .bad
def idxP : PyData → PyData → R PyData
  | .list xs, .int i => optR (atI xs i)
  | .tuple xs, .int i => optR (atI xs i)
  | .str x, .int i => if x.length ≤ LIM then optR ((atI x.cps.toList i).map fun c => .str ⟨#[c]⟩) else .bad
  | _, _ => .bad
theorem HasL.atI {K : PySem.W.Frag} {F : Hp} {ds : List PyData} {xs : List V} (h : HasL K F ds xs) {i : Int} {d : PyData} (e : L2.atI ds i = some d) : ∃ v, L2.atI xs i = some v ∧ Has K F d v := by
  unfold L2.atI at e ⊢
  rw [h.1]
  cases q : ixN ds.length i with
  | none => rw [q] at e; cases e
  | some j => rw [q] at e; exact h.get e
theorem ix_seqV : IxV X W idxP := by
  refine ⟨_, ix_seq, fun ρ st σ g x y v u Q rel hx hy k => ?_⟩
  cases x with
  | list xs =>
    cases y with
    | int i =>
      obtain ⟨a, vs, rfl, s, l⟩ := hx.lst
      simp only [idxP] at k
      cases e : atI xs i with
      | none => rw [e] at k; exact k.elim
      | some d =>
        rw [e] at k
        obtain ⟨w, h1, h2⟩ := l.atI e
        exact .inl ⟨a, vs, i, w, rfl, hy.int, s, h1, okP_fin rel h2 k⟩
    | _ => exact k.elim
  | tuple xs =>
    cases y with
    | int i =>
      obtain ⟨a, vs, rfl, s, l⟩ := Pk.tup rel.wd hx
      simp only [idxP] at k
      cases e : atI xs i with
      | none => rw [e] at k; exact k.elim
      | some d =>
        rw [e] at k
        obtain ⟨w, h1, h2⟩ := l.atI e
        exact .inr (.inl ⟨a, vs, i, w, rfl, hy.int, s, h1, okP_fin rel h2 k⟩)
    | _ => exact k.elim
  | str z =>
    cases y with
    | int i =>
      simp only [idxP] at k
      split at k
      · rename_i hl
        cases e : atI z.cps.toList i with
        | none => rw [e] at k; exact k.elim
        | some c =>
          rw [e] at k
          exact .inr (.inr ⟨z, i, c, hx.str, hy.int, by rw [lim_eq]; exact hl, e, okP_fin rel (.str _) k⟩)
      · exact k.elim
    | _ => exact k.elim
  | _ => cases y <;> exact k.elim

/-! ### x[i:j] -/
abbrev FO := Slots → Store → R (Option Int × Store)
def VO (X : Cx) (W : Wish) (e : Option Expr) (f : FO) : Prop :=
  ∃ t, PO X e t ∧ ∀ {β : Type} (ρ : Slots) (st : Store) (σ : L2.St) (g : Gh) (P : Option Int → Hp → Prop) (ok : Gh → β → Prop) (k : Option Int × Store → R β), Goes ok → Rel X.K ρ st σ g →
    KR (WN X.K W ρ σ g) (ok g) (f ρ st >>= k) →
    (∀ d st1 g1, Ext g g1 → Rel X.K ρ st1 σ g1 → KR (WN X.K W ρ σ g1) (ok g1) (k (d, st1)) → P d g1.H) → t σ g.H P
def oNone : FO := fun _ st => .ok (none, st)
def oSome (f : FE) : FO := fun ρ st => f ρ st >>= fun a => match a.1 with
  | .p (.int i) => .ok (some i, a.2)
  | _ => .bad
theorem vo_none : VO X W none oNone := ⟨_, po_none, fun ρ st σ g P ok k go rel kr hP => hP none st g (Ext.refl g) rel kr⟩
theorem vo_some {e : Expr} {f : FE} (h : VE X W e f) : VO X W (some e) (oSome f) := by
  obtain ⟨t, pe, run⟩ := h.run
  refine ⟨_, po_some pe, fun {β} ρ st σ g P ok k go rel kr hP => ?_⟩
  have e : (oSome f ρ st >>= k) = (f ρ st >>= fun a => (match a.1 with | .p (.int i) => R.ok (some i, a.2) | _ => R.bad) >>= k) := by
    unfold oSome
    cases f ρ st <;> rfl
  rw [e] at kr
  refine run ρ st σ g _ ok _ go rel kr fun d st1 v g1 e1 r1 h1 k1 => ?_
  cases d with
  | loc _ => exact k1.elim
  | p d =>
    cases d with
    | int i => exact ⟨i, Has.int_inv h1, hP (some i) st1 g1 e1 r1 k1⟩
    | _ => exact k1.elim
def cutD {α : Type} (xs : List α) (lo hi : Option Int) : List α := (xs.drop (HT.sIx xs.length 0 lo)).take (HT.sIx xs.length xs.length hi - HT.sIx xs.length 0 lo)
def slP : PyData → Option Int → Option Int → R PyData
  | .list xs, lo, hi => .ok (.list (cutD xs lo hi))
  | .tuple xs, lo, hi => .ok (.tuple (cutD xs lo hi))
  | _, _, _ => .bad
def vSl (f : FE) (l h : FO) : FE := fun ρ st => f ρ st >>= fun a => l ρ a.2 >>= fun b => h ρ b.2 >>= fun c => peek c.2 a.1 >>= fun x => slP x b.1 c.1 >>= fun d => .ok (.p d, c.2)
theorem HasL.cut {K : PySem.W.Frag} {F : Hp} {ds : List PyData} {xs : List V} (h : HasL K F ds xs) (lo hi : Option Int) : HasL K F (cutD ds lo hi) (cutV xs lo hi) := by
  unfold cutD cutV
  rw [h.1]
  exact (h.drop _).take _
theorem ve_slice {e : Expr} {f : FE} {lo hi : Option Expr} {l h : FO} {p2 pos : Pos} (he : VE X W e f) (hl : VO X W lo l) (hh : VO X W hi h) : VE X W (.Subscript e (.Slice lo hi none p2) pos) (vSl f l h) := by
  obtain ⟨t, pe, run⟩ := he.run
  obtain ⟨tl, pl, runl⟩ := hl
  obtain ⟨th, ph, runh⟩ := hh
  refine ⟨_, pe_slice (sl_list.or sl_tupA) pe pl ph, fun ρ st σ g Q rel k => ?_⟩
  refine run ρ st σ g _ (okE X.K ρ σ Q) _ okE.goes rel k fun d1 st1 v1 g1 e1 r1 h1 k1 => ?_
  refine runl ρ st1 σ g1 _ (okE X.K ρ σ Q) _ okE.goes r1 k1 fun d2 st2 g2 e2 r2 k2 => ?_
  refine runh ρ st2 σ g2 _ (okE X.K ρ σ Q) _ okE.goes r2 k2 fun d3 st3 g3 e3 r3 k3 => ?_
  obtain ⟨x, px, k4⟩ := peek_bind k3
  have hx := pk_of r3.wd ((h1.ext e2).ext e3) px
  cases x with
  | list xs =>
    obtain ⟨a, vs, rfl, s, l⟩ := hx.lst
    exact .inl ⟨a, vs, rfl, s, okP_newL r3 (l.cut d2 d3) k4⟩
  | tuple xs =>
    obtain ⟨a, vs, rfl, s, l⟩ := hx.tupF
    refine .inr ⟨a, vs, rfl, seqT_mono r3.wd.sub (.inl (.inl s)), fun hw => ?_, fun hw => okP_newT r3 (l.cut d2 d3) k4⟩
    refine okP_fin r3 (.tup' s ?_) k4
    have e : cutD xs d2 d3 = xs := by
      unfold cutD
      rw [← l.1, hw.1, hw.2, Nat.sub_zero, List.drop_zero, List.take_of_length_le (by rw [l.1]; exact Nat.le_refl _)]
    rw [e]; exact l
  | _ => exact k4.elim
end
end VL

namespace VL
open PySem PySem.Spec PyProof.Rows L2
open PySem.W (AlikeAll iter_listW iter_tupleW moved_old min_list_data min_tuple_data max_list_data max_tuple_data minD maxD)
section
variable {X : Cx} {W : Wish}

/-! ### a built-in's call upon what its arguments hold -/
def peekL (st : Store) : List Vd → R (List PyData)
  | [] => .ok []
  | d :: ds => peek st d >>= fun x => peekL st ds >>= fun r => .ok (x :: r)
theorem peekL_exc {st : Store} : ∀ {ds : List Vd} {n : Str} {s : Store}, peekL st ds ≠ .exc n s
  | [], n, s => by simp [peekL]
  | d :: ds, n, s => by
    simp only [peekL]
    cases e1 : peek st d with
    | bad => simp
    | exc m s => exact (peek_exc e1).elim
    | ok a =>
      simp only [R.ok_bind]
      cases e2 : peekL st ds with
      | bad => simp
      | exc m s => exact (peekL_exc e2).elim
      | ok b => simp
def PkL (K : PySem.W.Frag) (g : Gh) (ds : List PyData) (xs : List V) : Prop := Paired (fun v d => Pk K g d v) xs ds
theorem pkL_of {K : PySem.W.Frag} {st : Store} {g : Gh} (w : Wd K st g) : ∀ {ds : List Vd} {xs : List V} {ps : List PyData}, HasVL K g ds xs → peekL st ds = .ok ps → PkL K g ps xs
  | [], xs, ps, h, e => by
    cases e
    rw [h.nil_inv]; exact .nil
  | d :: ds, xs, ps, h, e => by
    obtain ⟨v, r, rfl, h1, h2⟩ := h.uncons
    simp only [peekL] at e
    cases e1 : peek st d with
    | bad => rw [e1] at e; cases e
    | exc m s => exact (peek_exc e1).elim
    | ok a =>
      rw [e1] at e
      simp only [R.ok_bind] at e
      cases e2 : peekL st ds with
      | bad => rw [e2] at e; cases e
      | exc m s => exact (peekL_exc e2).elim
      | ok b => rw [e2] at e; cases e; exact .cons (pk_of w h1 e1) (pkL_of w h2 e2)
def CallV (X : Cx) (W : Wish) (f : Value) (o : List PyData → R PyData) : Prop :=
  ∃ r, CallR X f r ∧ ∀ (ρ : Slots) (st : Store) (σ : L2.St) (g : Gh) (ds : List PyData) (vs : List V) (Q : VK), Rel X.K ρ st σ g → PkL X.K g ds vs →
    KR (WN X.K W ρ σ g) (okE X.K ρ σ Q g) (o ds >>= fun d => .ok (.p d, st)) → r vs g.H Q
def vCall (o : List PyData → R PyData) (fa : FA) : FE := fun ρ st => fa ρ st >>= fun a => peekL a.2 a.1 >>= fun ds => o ds >>= fun d => .ok (.p d, a.2)
theorem callV_run {es : List Expr} {fa : FA} {r : List V → Hp → VK → Prop} {o : List PyData → R PyData} (ho : ∀ (ρ : Slots) (st : Store) (σ : L2.St) (g : Gh) (ds : List PyData) (vs : List V) (Q : VK), Rel X.K ρ st σ g → PkL X.K g ds vs →
    KR (WN X.K W ρ σ g) (okE X.K ρ σ Q g) (o ds >>= fun d => .ok (.p d, st)) → r vs g.H Q) (h : VA X W es fa) :
    ∃ t, PA X es t ∧ ∀ ρ st σ g Q, Rel X.K ρ st σ g → KE X.K W ρ σ g Q (vCall o fa ρ st) → tCB r t σ g.H Q := by
  obtain ⟨t, pa, run⟩ := h.run
  refine ⟨t, pa, fun ρ st σ g Q rel k => ?_⟩
  refine run ρ st σ g _ (okE X.K ρ σ Q) _ okE.goes rel k fun d1 st1 v1 g1 e1 r1 h1 k1 => ?_
  cases e2 : peekL st1 d1 with
  | bad => simp only [e2] at k1; exact k1.elim
  | exc n s => exact (peekL_exc e2).elim
  | ok ds =>
    simp only [e2] at k1
    exact ho ρ st1 σ g1 ds v1 Q r1 (pkL_of r1.wd h1 e2) k1
theorem ve_callB {x : Str} {p pos : Pos} {e : Expr} {es : List Expr} {id : String} {o : List PyData → R PyData} {fa : FA} (hc : CallV X W (.builtin id) o) (hg : Gl X x) (hm : X.mg x = none) (hv : bootBuiltins x = some (.builtin id)) (ha : VA X W (e :: es) fa) (hn : x ≠ "__name__" := by decide) (hdb : (x == ("__debug__" : Str)) = false := by decide)
    (he : starEach (e :: es) X.env = (false, eval e X.env) :: starEach es X.env := by rfl) (hpl : (backTo pos (starEach es X.env)).any (·.1) = false := by rfl) : VE X W (.Call (.Name x p) (e :: es) [] pos) (vCall o fa) := by
  obtain ⟨r, h1, h2⟩ := hc
  obtain ⟨t, pa, run⟩ := callV_run h2 ha
  exact ⟨_, pe_callB h1 hg hm hv pa hn hdb he hpl, run⟩
theorem ve_callTy {x : Str} {p pos : Pos} {e : Expr} {es : List Expr} {T : String} {o : List PyData → R PyData} {fa : FA} (hc : CallV X W (.type T) o) (hg : Gl X x) (hm : X.mg x = none) (hv : bootBuiltins x = some (.type T)) (ha : VA X W (e :: es) fa) (hn : x ≠ "__name__" := by decide) (hdb : (x == ("__debug__" : Str)) = false := by decide)
    (he : starEach (e :: es) X.env = (false, eval e X.env) :: starEach es X.env := by rfl) (hpl : (backTo pos (starEach es X.env)).any (·.1) = false := by rfl) : VE X W (.Call (.Name x p) (e :: es) [] pos) (vCall o fa) := by
  obtain ⟨r, h1, h2⟩ := hc
  obtain ⟨t, pa, run⟩ := callV_run h2 ha
  exact ⟨_, pe_callTy h1 hg hm hv pa hn hdb he hpl, run⟩
theorem pkL1 {K : PySem.W.Frag} {g : Gh} {d : PyData} {xs : List V} (h : PkL K g [d] xs) : ∃ v, xs = [v] ∧ Pk K g d v := by
  cases h with
  | cons h t => cases t; exact ⟨_, rfl, h⟩
theorem pkL2 {K : PySem.W.Frag} {g : Gh} {d e : PyData} {xs : List V} (h : PkL K g [d, e] xs) : ∃ v u, xs = [v, u] ∧ Pk K g d v ∧ Pk K g e u := by
  cases h with
  | cons h t =>
    cases t with
    | cons h2 t2 => cases t2; exact ⟨_, _, rfl, h, h2⟩
/-- one argument -/
def one (o : PyData → R PyData) : List PyData → R PyData
  | [d] => o d
  | _ => .bad
theorem cv_one {f : Value} {r : List V → Hp → VK → Prop} {o : PyData → R PyData} (h : CallR X f r) (ho : UnV X W (fun v H Q => r [v] H Q) o) : CallV X W f (one o) := by
  refine ⟨r, h, fun ρ st σ g ds vs Q rel hp k => ?_⟩
  match ds, hp, k with
  | [d], hp, k =>
    obtain ⟨v, rfl, h1⟩ := pkL1 hp
    exact ho ρ st σ g d v Q rel h1 k
  | [], hp, k => exact k.elim
  | _ :: _ :: _, hp, k => exact k.elim

/-! ### len, abs, int, bool -/
def lenP : PyData → R PyData
  | .list xs => .ok (.int xs.length)
  | .tuple xs => .ok (.int xs.length)
  | .str x => if x.length ≤ LIM then .ok (.int x.length) else .bad
  | _ => .bad
theorem cv_len : CallV X W (.builtin "len") (one lenP) := by
  refine cv_one (call_len_seq.or call_len_str) fun ρ st σ g x v Q rel hx k => ?_
  cases x with
  | list xs =>
    obtain ⟨a, vs, rfl, s, l⟩ := hx.lst
    refine .inl ⟨a, vs, rfl, .inl s, ?_⟩
    rw [l.1]; exact okP_fin rel (.int _) k
  | tuple xs =>
    obtain ⟨a, vs, rfl, s, l⟩ := Pk.tup rel.wd hx
    refine .inl ⟨a, vs, rfl, .inr s, ?_⟩
    rw [l.1]; exact okP_fin rel (.int _) k
  | str z =>
    simp only [lenP] at k
    split at k
    · rename_i hl
      exact .inr ⟨z, by rw [hx.str], by rw [lim_eq]; exact hl, okP_fin rel (.int _) k⟩
    · exact k.elim
  | _ => exact k.elim
def absP : PyData → R PyData
  | .int i => .ok (.int (if i < 0 then -i else i))
  | _ => .bad
theorem cv_abs : CallV X W (.builtin "abs") (one absP) := by
  refine cv_one call_abs fun ρ st σ g x v Q rel hx k => ?_
  cases x with
  | int i => exact ⟨i, by rw [hx.int], okP_fin rel (.int _) k⟩
  | _ => exact k.elim
def intP1 : PyData → R PyData
  | .int i => .ok (.int i)
  | .bool b => .ok (.int (if b then 1 else 0))
  | _ => .bad
theorem cv_int : CallV X W (.type "int") (one intP1) := by
  refine cv_one call_int1 fun ρ st σ g x v Q rel hx k => ?_
  cases x with
  | int i => exact .inl ⟨i, by rw [hx.int], okP_fin rel (.int _) k⟩
  | bool i => exact .inr ⟨i, by rw [hx.bl], okP_fin rel (.int _) k⟩
  | _ => exact k.elim
def boolP1 : PyData → R PyData
  | .int i => .ok (.bool (i != 0))
  | .bool b => .ok (.bool b)
  | _ => .bad
theorem cv_bool : CallV X W (.type "bool") (one boolP1) := by
  refine cv_one call_bool1 fun ρ st σ g x v Q rel hx k => ?_
  cases x with
  | int i => exact .inl ⟨i, by rw [hx.int], okP_fin rel (.bl _) k⟩
  | bool i => exact .inr ⟨i, by rw [hx.bl], okP_fin rel (.bl _) k⟩
  | _ => exact k.elim

/-! ### tuple(..), list(..) -/
def tupleP : PyData → R PyData
  | .list xs => .ok (.tuple xs)
  | .tuple xs => .ok (.tuple xs)
  | _ => .bad
theorem cv_tuple : CallV X W (.type "tuple") (one tupleP) := by
  refine cv_one call_tuple_of fun ρ st σ g x v Q rel hx k => ?_
  cases x with
  | list xs =>
    obtain ⟨a, vs, rfl, s, l⟩ := hx.lst
    exact ⟨a, vs, rfl, .inl ⟨s, okP_newT rel l k⟩⟩
  | tuple xs =>
    obtain ⟨a, vs, rfl, s, l⟩ := hx.tupF
    exact ⟨a, vs, rfl, .inr ⟨seqT_mono rel.wd.sub (.inl (.inl s)), okP_fin rel (.tup' s l) k⟩⟩
  | _ => exact k.elim
def listP : PyData → R PyData
  | .list xs => .ok (.list xs)
  | .tuple xs => .ok (.list xs)
  | _ => .bad
theorem cv_list : CallV X W (.type "list") (one listP) := by
  refine cv_one call_list_of fun ρ st σ g x v Q rel hx k => ?_
  cases x with
  | list xs =>
    obtain ⟨a, vs, rfl, s, l⟩ := hx.lst
    exact ⟨a, vs, rfl, .inl s, okP_newL rel l k⟩
  | tuple xs =>
    obtain ⟨a, vs, rfl, s, l⟩ := Pk.tup rel.wd hx
    exact ⟨a, vs, rfl, .inr s, okP_newL rel l k⟩
  | _ => exact k.elim

/-! ### isinstance -/
def tyName : PyData → String
  | .none => "NoneType"
  | .bool _ => "bool"
  | .int _ => "int"
  | .str _ => "str"
  | .list _ => "list"
  | .tuple _ => "tuple"
  | .dict _ => "dict"
theorem Pk.tyX {K : PySem.W.Frag} {st : Store} {g : Gh} (w : Wd K st g) {d : PyData} {v : V} (h : Pk K g d v) (hd : ∀ l, d ≠ .dict l) : TyX K g.H v (.type (tyName d)) := by
  cases d with
  | none => rw [Has.non_inv h]; exact .base .non
  | bool b => rw [Has.bl_inv h]; exact .base (.bl b)
  | int b => rw [Has.int_inv h]; exact .base (.int b)
  | str b => rw [Has.str_inv h]; exact .base (.str b)
  | list xs =>
    obtain ⟨a, vs, rfl, s, l⟩ := h
    rcases s with (s | ⟨o, s⟩) | ⟨o, its, n, hk, hc, _⟩
    · exact .base (.lst s)
    · exact .base (.frz s)
    · exact .kList hk hc
  | tuple xs =>
    obtain ⟨a, vs, rfl, s, l⟩ := Pk.tup w h
    rcases s with (s | ⟨o, s⟩) | ⟨o, its, n, hk, hc, _⟩
    · exact .base (.tup s)
    · exact .fTuple s
    · exact .kTuple hk hc
  | dict l => exact (hd l rfl).elim
def tyLe (a b : String) : Bool := a == b || (a == "bool" && b == "int")
def isDict : PyData → Bool
  | .dict _ => true
  | _ => false
def isiP (T : String) (d : PyData) : R PyData := if isDict d = true then .bad else .ok (.bool (tyLe (tyName d) T))
theorem ve_isi {T : String} {n : Str} {e : Expr} {f : FE} {p pn pos : Pos} (h : VE X W e f) (hk : ∀ t ∈ ["NoneType", "bool", "int", "str", "list", "tuple"], kitB t T = some (tyLe t T))
    (hg : Gl X "isinstance") (hm : X.mg "isinstance" = none) (hv : bootBuiltins "isinstance" = some (.builtin "isinstance")) (hgn : Gl X n) (hmn : X.mg n = none) (hvn : bootBuiltins n = some (.type T)) (hn : n ≠ "__name__" := by decide) (hdb : (n == ("__debug__" : Str)) = false := by decide)
    (he : starEach [e, .Name n pn] X.env = (false, eval e X.env) :: starEach [.Name n pn] X.env := by rfl) (hpl : (backTo pos (starEach [.Name n pn] X.env)).any (·.1) = false := by rfl) :
    VE X W (.Call (.Name "isinstance" p) [e, .Name n pn] [] pos) (vUn (isiP T) f) := by
  have pn' : PE X (.Name n pn) (tC (.ty T)) := pe_bltn hgn hmn hvn (show RelV (.ty T) (.type T) from rfl) hn hdb
  have ho : UnV X W (fun v H Q => rIsi X.K [v, .ty T] H Q) (isiP T) := fun ρ st σ g x v Q rel hx k => by
    simp only [isiP] at k
    split at k
    · exact k.elim
    · rename_i hd
      refine ⟨v, .ty T, .type (tyName x), .type T, tyLe (tyName x) T, rfl, .ty T, hx.tyX rel.wd (fun l e => hd (by rw [e]; rfl)), kit_ty (hk _ ?_), okP_fin rel (.bl _) k⟩
      cases x <;> simp [tyName, isDict] at hd ⊢
  obtain ⟨t, pe, run⟩ := un_run ho h
  exact ⟨_, pe_callB call_isi hg hm hv (pa_cons (hs := he) pe (pa_cons pn' pa_nil)) (by decide) (by decide) he hpl, run⟩
theorem kit_int : ∀ t ∈ ["NoneType", "bool", "int", "str", "list", "tuple"], kitB t "int" = some (tyLe t "int") := by decide +kernel
theorem kit_bool : ∀ t ∈ ["NoneType", "bool", "int", "str", "list", "tuple"], kitB t "bool" = some (tyLe t "bool") := by decide +kernel
theorem kit_str : ∀ t ∈ ["NoneType", "bool", "int", "str", "list", "tuple"], kitB t "str" = some (tyLe t "str") := by decide +kernel
theorem kit_list : ∀ t ∈ ["NoneType", "bool", "int", "str", "list", "tuple"], kitB t "list" = some (tyLe t "list") := by decide +kernel
theorem kit_tuple : ∀ t ∈ ["NoneType", "bool", "int", "str", "list", "tuple"], kitB t "tuple" = some (tyLe t "tuple") := by decide +kernel
theorem kit_dict : ∀ t ∈ ["NoneType", "bool", "int", "str", "list", "tuple"], kitB t "dict" = some (tyLe t "dict") := by decide +kernel

/-! ### sum, min, max, sorted of a list or a tuple -/
/-- a list or a tuple that is read -/
def SqB (K : PySem.W.Frag) (H : Hp) (a : Addr) (xs : List V) : Prop := SqL K H a xs ∨ SqT K H a xs
theorem Pk.sq {K : PySem.W.Frag} {st : Store} {g : Gh} (w : Wd K st g) {d : PyData} {ds : List PyData} {v : V} (h : Pk K g d v) (e : itemsOf d = some ds) : ∃ a xs, v = .ref a ∧ SqB K g.H a xs ∧ HasL K g.F ds xs := by
  cases d with
  | list xs =>
    cases e
    obtain ⟨a, vs, rfl, s, l⟩ := h.lst
    exact ⟨a, vs, rfl, .inl s, l⟩
  | tuple xs =>
    cases e
    obtain ⟨a, vs, rfl, s, l⟩ := Pk.tup w h
    exact ⟨a, vs, rfl, .inr s, l⟩
  | _ => cases e
theorem iter_any {prog : Program} {w : World} {A : Around} {E : Value → Shared → Prop} {s : Shared} {l : Addr} {vs : Array Value} {Q : Value → Shared → Prop} (hh : A.handled = none) (hl : s.heap.IsList l vs ∨ s.heap.IsTuple l vs)
    (h : ∀ (s₂ : Shared) (St : Nat → Shared → Prop) (o : Obj), s₂ = { s with heap := s.heap.push o } →
      WalksS prog w A s.heap.objs.size [s.heap.objs.size, l] [s.heap.objs.size] (fun a b => b = a) vs.size (fun i v => vs[i]? = some v) St →
      St 0 s₂ → (∀ b ∈ [s.heap.objs.size, l], b < s₂.heap.objs.size) → (∀ b o, s.heap.get? b = some o → b ∉ [s.heap.objs.size]) → (∀ b o, s.heap.get? b = some o → s₂.heap.get? b = some o) → Q (.ref s.heap.objs.size) s₂) :
    wpAny (model prog w) A (pyIter (.ref l)) Q E s := by
  rcases hl with hl | hl
  · exact iter_listW hh hl fun s₂ e W st h1 h2 h3 => h s₂ _ _ e W st h1 h2 h3
  · exact iter_tupleW hh hl fun s₂ e W st h1 h2 h3 => h s₂ _ _ e W st h1 h2 h3
theorem SqB.at {pins : List (Addr × Obj)} {σ : L2.St} {H : Hp} {s : Shared} {a : Addr} {xs : List V} (I : Inv X pins σ H s) (h : SqB X.K H a xs) : ∃ its : List Value, Vals xs its ∧ (s.heap.IsList a its.toArray ∨ s.heap.IsTuple a its.toArray) ∧ xs.length ≤ sizeLine := by
  rcases h with h | h
  · obtain ⟨its, r, p, z⟩ := I.list h
    exact ⟨its, r, .inl p.isList, z⟩
  · obtain ⟨its, r, p, z⟩ := I.tuple h
    exact ⟨its, r, .inr p, z⟩
theorem at_getD {its : List Value} {ns : List Int} (h : IntsAre its ns) : ∀ (i : Nat) (v : Value), its.toArray[i]? = some v → ∃ t, v = .int (ns.getD i 0) t := by
  intro i v hv
  replace hv : its[i]? = some v := by simpa using hv
  induction h generalizing i with
  | nil => simp at hv
  | cons n t _ ih =>
    cases i with
    | zero => simp at hv; subst hv; exact ⟨t, by simp⟩
    | succ i => simpa using ih i (by simpa using hv)
theorem preSum_getD : ∀ (ns : List Int), preSum (fun i => ns.getD i 0) ns.length = ns.sum := by
  intro ns
  have key : ∀ (n : Nat), n ≤ ns.length → preSum (fun i => ns.getD i 0) n = (ns.take n).sum := by
    intro n
    induction n with
    | zero => intro _; simp [preSum]
    | succ n ih =>
      intro hn
      have h1 : ns[n]? = some ns[n] := List.getElem?_eq_getElem (by omega)
      rw [L2.sum_take h1]
      simp only [preSum]
      rw [ih (by omega), List.getD_eq_getElem?_getD, h1]
      rfl
  rw [key ns.length (Nat.le_refl _), List.take_length]
/-- sum of ints -/
def rSumB (K : PySem.W.Frag) : List V → Hp → VK → Prop := fun vs H Q => ∃ (a : Addr) (ns : List Int), vs = [V.ref a] ∧ SqB K H a (ns.map V.int) ∧ Q (.int ns.sum) H
theorem cr_sumB (hc : X.calm = true) : CallR X (.builtin "sum") (rSumB X.K) := by
  intro pins s σ H vs us Q I r h
  obtain ⟨a, ns, rfl, hs, q⟩ := h
  obtain ⟨its, rv, hl, _⟩ := hs.at I
  rw [Vals.ref1 r]
  have hi := rv.ints
  refine call_sum_walkAnyS (iter_any (A := X.A.in1) (I.ok.hd hc) hl fun s₂ St o e W st h1 h2 h3 => ?_)
  refine ⟨_, _, _, _, _, _, St, fun i => ns.getD i 0, rfl, W, st, h1, at_getD hi, fun s' t' m => ?_⟩
  obtain ⟨h', tk, rfl, hk⟩ := moved_old e rfl m
  refine ⟨.int ns.sum, H, I.kept hk, ⟨t', ?_⟩, q⟩
  have el : its.toArray.size = ns.length := by rw [List.size_toArray]; exact hi.length
  rw [el, preSum_getD]
/-- all are ints -/
def asInts : List PyData → Option (List Int)
  | [] => some []
  | .int i :: r => (asInts r).map (i :: ·)
  | _ :: _ => none
theorem asInts_map (ns : List Int) : asInts (ns.map .int) = some ns := by
  induction ns with
  | nil => rfl
  | cons n r ih => simp [asInts, ih]
theorem asInts_some : ∀ {ds : List PyData} {ns : List Int}, asInts ds = some ns → ds = ns.map .int
  | [], ns, h => by cases h; rfl
  | .int i :: r, ns, h => by
    simp only [asInts] at h
    cases e : asInts r with
    | none => rw [e] at h; cases h
    | some m => rw [e] at h; cases h; rw [asInts_some e]; rfl
  | .none :: _, _, h => by cases h
  | .bool _ :: _, _, h => by cases h
  | .str _ :: _, _, h => by cases h
  | .list _ :: _, _, h => by cases h
  | .tuple _ :: _, _, h => by cases h
  | .dict _ :: _, _, h => by cases h
theorem hasL_ints {K : PySem.W.Frag} {F : Hp} : ∀ {ns : List Int} {xs : List V}, HasL K F (ns.map .int) xs → xs = ns.map V.int
  | [], xs, h => h.nil_inv
  | n :: r, xs, h => by
    obtain ⟨v, r', rfl, h1, h2⟩ := HasL.uncons h
    rw [h1.int_inv, hasL_ints h2]; rfl
theorem hasL_of_ints {K : PySem.W.Frag} {F : Hp} : ∀ (ns : List Int), HasL K F (ns.map .int) (ns.map V.int)
  | [] => .nil
  | n :: r => .cons (.int n) (hasL_of_ints r)
def sumP (d : PyData) : R PyData := match (itemsOf d).bind asInts with
  | some ns => .ok (.int ns.sum)
  | none => .bad
theorem cv_sum (hc : X.calm = true) : CallV X W (.builtin "sum") (one sumP) := by
  refine cv_one (cr_sumB hc) fun ρ st σ g x v Q rel hx k => ?_
  unfold sumP at k
  cases e1 : itemsOf x with
  | none => rw [e1] at k; exact k.elim
  | some ds =>
    cases e2 : asInts ds with
    | none => rw [e1, Option.bind_some, e2] at k; exact k.elim
    | some ns =>
      rw [e1, Option.bind_some, e2] at k
      obtain ⟨a, xs, rfl, s, l⟩ := hx.sq rel.wd e1
      rw [asInts_some e2] at l
      have ex := hasL_ints l
      subst ex
      exact ⟨a, ns, rfl, s, okP_fin rel (.int _) k⟩

theorem alike_bool (xs : List PyData) : (∀ x ∈ xs, ∀ y ∈ xs, PySem.W.alike x y = true) ↔ (xs.all fun x => xs.all fun y => PySem.W.alike x y) = true := by
  simp only [List.all_eq_true]
theorem readsAll_of {pins : List (Addr × Obj)} {σ : L2.St} {st : Store} {g : Gh} {s : Shared} {ds : List PyData} {xs : List V} {its : List Value} (I : Inv X pins σ g.H s) (w : Same g.F g.H) (h : HasL X.K g.F ds xs) (hc : PyData.canLayAll0 ds = true) (r : Vals xs its) : ∃ as, ReadsAll s.heap its ds as :=
  Dp.readsAll I ds xs its ((h.mono w).dpAll hc) r
/-- the least or greatest item -/
def MmOk (ds : List PyData) : Prop := (ds.all SeqAt.shaped && (ds.all fun x => ds.all fun y => PySem.W.alike x y) && ds.all fun x => !isNone x) = true
instance (ds : List PyData) : Decidable (MmOk ds) := by unfold MmOk; infer_instance
theorem MmOk.all {ds : List PyData} (h : MmOk ds) : (∀ x ∈ ds, SeqAt.shaped x = true) ∧ AlikeAll ds := by
  unfold MmOk at h
  simp only [Bool.and_eq_true, List.all_eq_true, Bool.not_eq_true'] at h
  refine ⟨h.1.1, h.1.2, fun x hx e => ?_⟩
  have := h.2 x hx
  rw [e] at this
  simp [isNone] at this
theorem canLayAll_of : ∀ {ds : List PyData}, (∀ x ∈ ds, SeqAt.shaped x = true) → PyData.canLayAll0 ds = true
  | [], _ => by simp [PyData.canLayAll0]
  | d :: ds, h => by
    simp only [PyData.canLayAll0, Bool.and_eq_true]
    exact ⟨canLay_shaped (h d List.mem_cons_self), canLayAll_of fun x hx => h x (List.mem_cons_of_mem _ hx)⟩
theorem depthAll_of : ∀ {ds : List PyData}, (∀ x ∈ ds, SeqAt.shaped x = true) → PyData.depthAll ds ≤ 64
  | [], _ => by simp [PyData.depthAll]
  | d :: ds, h => by
    simp only [PyData.depthAll]
    have h1 := depth_shaped (h d List.mem_cons_self)
    have h2 := depthAll_of fun x hx => h x (List.mem_cons_of_mem _ hx)
    omega
def rMmB (K : PySem.W.Frag) (f : PyData → List PyData → PyData) : List V → Hp → VK → Prop := fun vs H Q => ∃ (a : Addr) (F : Hp) (x : PyData) (ds : List PyData) (xs : List V), vs = [V.ref a] ∧ Same F H ∧ SqB K H a xs ∧ HasL K F (x :: ds) xs ∧ MmOk (x :: ds) ∧
  ∀ v, Has K F (f x ds) v → Q v H
theorem mm_fin {pins : List (Addr × Obj)} {σ : L2.St} {H F : Hp} {s : Shared} {Q : VK} {ds : List PyData} {xs : List V} {its : List Value} {m : PyData} {i : Nat} {v : Value} {h' : Heap} {tk : Nat} {bs : List Addr} (I : Inv X pins σ H s) (hF : Same F H) (hl : HasL X.K F ds xs) (rv : Vals xs its) (ho : MmOk ds)
    (hv : its.toArray[i]? = some v) (r : Reads h' v m bs) (hm : m ∈ ds) (hk : ∀ b o, s.heap.get? b = some o → h'.get? b = some o) (q : ∀ v, Has X.K F m v → Q v H) : EP X pins σ Q v { s with heap := h', toks := tk } := by
  have hv : its[i]? = some v := by simpa using hv
  have I' : Inv X pins σ H { s with heap := h', toks := tk } := I.kept hk
  obtain ⟨hi, _⟩ := List.getElem?_eq_some_iff.mp hv
  have hx : i < xs.length := by rw [rv.length]; exact hi
  obtain ⟨u, hu, ru⟩ := rv.get (i := i) (List.getElem?_eq_getElem hx)
  rw [hv] at hu
  cases hu
  obtain ⟨d, hd, hh⟩ := hl.getV (List.getElem?_eq_getElem hx)
  have hmem := List.mem_of_getElem? hd
  obtain ⟨as, r2⟩ := Dp.reads I' d xs[i] v ((hh.mono hF).dp (canLay_shaped (ho.all.1 d hmem))) ru
  have e : d = m := PySem.W.alike_unique d m v as bs (ho.all.2.1 d hmem m hm) r2 r
  rw [e] at hh
  exact ⟨xs[i], H, I', ru, q _ hh⟩
theorem minD_mem (x : PyData) (xs : List PyData) : minD x xs ∈ x :: xs := by
  unfold minD
  have key : ∀ (l : List PyData) (a : PyData), l.foldl (fun a y => if PySem.W.dataLt y a then y else a) a ∈ a :: l := by
    intro l
    induction l with
    | nil => intro a; simp
    | cons y l ih =>
      intro a
      rw [List.foldl_cons]
      have := ih (if PySem.W.dataLt y a then y else a)
      rcases List.mem_cons.mp this with e | e
      · rw [e]
        split
        · exact List.mem_cons_of_mem _ List.mem_cons_self
        · exact List.mem_cons_self
      · exact List.mem_cons_of_mem _ (List.mem_cons_of_mem _ e)
  exact key xs x
theorem maxD_mem (x : PyData) (xs : List PyData) : maxD x xs ∈ x :: xs := by
  unfold maxD
  have key : ∀ (l : List PyData) (a : PyData), l.foldl (fun a y => if PySem.W.dataLt a y then y else a) a ∈ a :: l := by
    intro l
    induction l with
    | nil => intro a; simp
    | cons y l ih =>
      intro a
      rw [List.foldl_cons]
      have := ih (if PySem.W.dataLt a y then y else a)
      rcases List.mem_cons.mp this with e | e
      · rw [e]
        split
        · exact List.mem_cons_of_mem _ List.mem_cons_self
        · exact List.mem_cons_self
      · exact List.mem_cons_of_mem _ (List.mem_cons_of_mem _ e)
  exact key xs x
theorem cr_minB (hc : X.calm = true) (hu : X.A.units + 65 < cLine) : CallR X (.builtin "min") (rMmB X.K minD) := by
  intro pins s σ H vs us Q I r h
  obtain ⟨a, F, x, ds, xs, rfl, hF, hs, hl, ho, q⟩ := h
  obtain ⟨its, rv, hla, _⟩ := hs.at I
  rw [Vals.ref1 r]
  obtain ⟨as, ra⟩ := Dp.readsAll I (x :: ds) xs its ((hl.mono hF).dpAll (canLayAll_of ho.all.1)) rv
  have hd := depthAll_of ho.all.1
  rcases hla with hla | hla
  · exact min_list_data (I.ok.hd hc) hla ra ho.all.2 (by omega) fun i v h' tk bs hv rr hk => mm_fin I hF hl rv ho hv rr (minD_mem x ds) hk q
  · exact min_tuple_data (I.ok.hd hc) hla ra ho.all.2 (by omega) fun i v h' tk bs hv rr hk => mm_fin I hF hl rv ho hv rr (minD_mem x ds) hk q
theorem cr_maxB (hc : X.calm = true) (hu : X.A.units + 65 < cLine) : CallR X (.builtin "max") (rMmB X.K maxD) := by
  intro pins s σ H vs us Q I r h
  obtain ⟨a, F, x, ds, xs, rfl, hF, hs, hl, ho, q⟩ := h
  obtain ⟨its, rv, hla, _⟩ := hs.at I
  rw [Vals.ref1 r]
  obtain ⟨as, ra⟩ := Dp.readsAll I (x :: ds) xs its ((hl.mono hF).dpAll (canLayAll_of ho.all.1)) rv
  have hd := depthAll_of ho.all.1
  rcases hla with hla | hla
  · exact max_list_data (I.ok.hd hc) hla ra ho.all.2 (by omega) fun i v h' tk bs hv rr hk => mm_fin I hF hl rv ho hv rr (maxD_mem x ds) hk q
  · exact max_tuple_data (I.ok.hd hc) hla ra ho.all.2 (by omega) fun i v h' tk bs hv rr hk => mm_fin I hF hl rv ho hv rr (maxD_mem x ds) hk q
def mmP (f : PyData → List PyData → PyData) (h : Int → Int → Int) : List PyData → R PyData
  | [.int i, .int j] => .ok (.int (h i j))
  | [d] => match itemsOf d with
    | some (x :: ds) => if MmOk (x :: ds) then .ok (f x ds) else .bad
    | _ => .bad
  | _ => .bad
theorem cv_mm {id : String} {f : PyData → List PyData → PyData} {h : Int → Int → Int} (h2 : CallR X (.builtin id) (fun xs H Q => ∃ i j, xs = [.int i, .int j] ∧ Q (.int (h i j)) H)) (h1 : CallR X (.builtin id) (rMmB X.K f)) : CallV X W (.builtin id) (mmP f h) := by
  refine ⟨_, h2.or h1, fun ρ st σ g ds vs Q rel hp k => ?_⟩
  unfold mmP at k
  split at k
  · obtain ⟨v, u, rfl, a, b⟩ := pkL2 hp
    exact .inl ⟨_, _, by rw [a.int, b.int], okP_fin rel (.int _) k⟩
  · rename_i d
    split at k
    · rename_i x ds e
      split at k
      · rename_i ho
        obtain ⟨v, rfl, hx⟩ := pkL1 hp
        obtain ⟨a, xs, rfl, s, l⟩ := hx.sq rel.wd e
        exact .inr ⟨a, g.F, x, ds, xs, rfl, rel.wd.sub, s, l, ho, fun v hv => okP_fin rel hv k⟩
      · exact k.elim
    · exact k.elim
  · exact k.elim
abbrev minP := mmP minD fun i j => if j < i then j else i
abbrev maxP := mmP maxD fun i j => if j > i then j else i
theorem cv_min (hc : X.calm = true) (hu : X.A.units + 65 < cLine) : CallV X W (.builtin "min") minP := cv_mm (call_min2 hc) (cr_minB hc hu)
theorem cv_max (hc : X.calm = true) (hu : X.A.units + 65 < cLine) : CallV X W (.builtin "max") maxP := cv_mm (call_max2 hc) (cr_maxB hc hu)
end
end VL

namespace VL
open PySem PySem.Spec PyProof.Rows L2
section
variable {X : Cx} {W : Wish}

/-! ### new objects: frozen at once, or owned -/
def NewAt (K : PySem.W.Frag) (F : Hp) : Ob → HO → Prop
  | .lst ds, o => ∃ xs, o = .lst xs ∧ HasL K F ds xs
  | .dct t ds, o => DctAt K F ds (some o) t
  | .fz _, _ => False
abbrev FN := Slots → Store → R (Ob × Store)
def okN (K : PySem.W.Frag) (ρ : Slots) (σ : L2.St) (Q : VK) (g : Gh) (a : Ob × Store) : Prop :=
  ∀ p o g', Ext g g' → Rel K ρ a.2 σ g' → g.H p = none → g'.H p = some o → g'.F p = none → p ∉ g'.A → NewAt K g'.F a.1 o → Q (.ref p) g'.H
abbrev RN (K : PySem.W.Frag) (W : Wish) (t : TE) (f : FN) : Prop := ∀ ρ st σ g Q, Rel K ρ st σ g → KR (WN K W ρ σ g) (okN K ρ σ Q g) (f ρ st) → t σ g.H Q
abbrev RE (K : PySem.W.Frag) (W : Wish) (t : TE) (f : FE) : Prop := ∀ ρ st σ g Q, Rel K ρ st σ g → KE K W ρ σ g Q (f ρ st) → t σ g.H Q
def VN (X : Cx) (W : Wish) (e : Expr) (f : FN) : Prop :=
  ∃ t, PE X e t ∧ ∀ ρ st σ g Q, Rel X.K ρ st σ g → KR (WN X.K W ρ σ g) (okN X.K ρ σ Q g) (f ρ st) → t σ g.H Q
/-- laid, neither frozen nor owned -/
abbrev Gh.raw (g : Gh) (p : Addr) (o : HO) : Gh := ⟨g.F, g.A, upd g.H p o⟩
theorem ext_raw {g : Gh} {p : Addr} {o : HO} (h : g.H p = none) : Ext g (g.raw p o) :=
  ⟨Same.refl _, ⟨[], by simp, fun a z => by simp at z⟩, fun b x e _ _ => by
    show upd g.H p o b = some x
    rw [upd_ne (ne_of_none e h)]; exact e, fun b e => by
    have e : upd g.H p o b = none := e
    by_cases hb : b = p
    · rw [hb]; exact h
    · rw [upd_ne hb] at e; exact e, fun _ _ _ _ hf => hf, fun b ps e _ => ⟨ps, by
    show upd g.H p o b = some (.tbl ps)
    rw [upd_ne (ne_of_none e h)]; exact e⟩⟩
theorem wd_raw {K : PySem.W.Frag} {st : Store} {g : Gh} (w : Wd K st g) {p : Addr} {o : HO} (h : g.H p = none) : Wd K st (g.raw p o) := by
  refine ⟨fun b x q => ?_, w.nd, w.len, fun a ha => ?_, fun k a ob h1 h2 => ?_, fun P hP => ?_⟩
  · show upd g.H p o b = some x
    have := w.sub b x q
    rw [upd_ne (ne_of_none this h)]; exact this
  · obtain ⟨x, hx⟩ := w.there a ha
    refine ⟨x, ?_⟩
    show upd g.H p o a = some x
    rw [upd_ne (ne_of_none hx h)]; exact hx
  · obtain ⟨x, hx⟩ := w.there a (List.mem_of_getElem? h1)
    exact ObAt.ext (g := g) (g' := g.raw p o) (Same.refl _) id (by show upd g.H p o a = g.H a; rw [upd_ne (ne_of_none hx h)]) (w.own k a ob h1 h2)
  · obtain ⟨x, hx⟩ := (w.tabs P hP).some
    exact (w.tabs P hP).mono (show upd g.H p o P.2 = g.H P.2 by rw [upd_ne (ne_of_none hx h)]) rfl rfl
theorem okN_new {ρ : Slots} {st : Store} {σ : L2.St} {g : Gh} {Q : VK} {ob : Ob} (rel : Rel X.K ρ st σ g) (k : okN X.K ρ σ Q g (ob, st)) {p : Addr} {o : HO} (hp : g.H p = none) (hn : NewAt X.K g.F ob o) : Q (.ref p) (upd g.H p o) :=
  k p o (g.raw p o) (ext_raw hp) ⟨wd_raw rel.wd hp, rel.sl.ext (ext_raw hp)⟩ hp upd_same (rel.wd.fnone hp) (fun hm => by
    obtain ⟨x, hx⟩ := rel.wd.there p hm
    rw [hp] at hx; cases hx) hn
def obP : Ob → PyData
  | .lst ds => .list ds
  | .dct _ ds => .dict ds
  | .fz d => d
def vFz (f : FN) : FE := fun ρ st => f ρ st >>= fun a => .ok (.p (obP a.1), a.2)
def vOwn (f : FN) : FE := fun ρ st => f ρ st >>= fun a => .ok (.loc a.2.length, a.2 ++ [a.1])
theorem has_ob {K : PySem.W.Frag} {F : Hp} {ob : Ob} {o : HO} {p : Addr} (h : NewAt K F ob o) (hp : F p = some o) : Has K F (obP ob) (.ref p) := by
  cases ob with
  | lst ds =>
    obtain ⟨xs, rfl, l⟩ := h
    exact .lst' (.inl (.inl hp)) l
  | dct t ds => exact has_dct h (.inl hp)
  | fz d => exact h.elim
theorem NewAt.mono {K : PySem.W.Frag} {F F' : Hp} (e : Same F F') {ob : Ob} {o : HO} (h : NewAt K F ob o) : NewAt K F' ob o := by
  cases ob with
  | lst ds =>
    obtain ⟨xs, q, l⟩ := h
    exact ⟨xs, q, l.mono e⟩
  | dct t ds => exact DctAt.mono e h
  | fz d => exact h
theorem newAt_tbl {K : PySem.W.Frag} {F : Hp} {ob : Ob} {ps : Array Value} (h : NewAt K F ob (.tbl ps)) : False := by
  cases ob with
  | lst ds => obtain ⟨xs, e, _⟩ := h; cases e
  | dct t ds =>
    cases t with
    | false => obtain ⟨xs, e, _⟩ := h; cases e
    | true => obtain ⟨xs, e, _⟩ := h; cases e
  | fz d => exact h.elim
theorem RN.fz {K : PySem.W.Frag} {t : TE} {f : FN} (run : RN K W t f) : RE K W t (vFz f) := by
  intro ρ st σ g Q rel k
  refine run ρ st σ g Q rel ?_
  refine KR.mono (KR.bind k) (fun a ha p o g' e r' hp hH hF hA hn => ?_) fun n s hn => hn
  have sm : Same g'.F (upd g'.F p o) := same_upd hF
  have ex : Ext g ⟨upd g'.F p o, g'.A, g'.H⟩ := ⟨e.frz.trans sm, e.new, e.keep, e.there, fun b x q hb hf => by
    show upd g'.F p o b = none
    rw [upd_ne (ne_of_none q.1 hp)]; exact e.raw b x q hb hf, e.tbl⟩
  refine ha (.ref p) ⟨upd g'.F p o, g'.A, g'.H⟩ ex ⟨⟨fun b x q => ?_, r'.wd.nd, r'.wd.len, r'.wd.there, fun j b ob hj hb => ?_, fun P hP => ?_⟩, Sl.mono (g := g') (g' := ⟨upd g'.F p o, g'.A, g'.H⟩) sm (List.prefix_refl _) r'.sl⟩ ?_
  · have q : upd g'.F p o b = some x := q
    by_cases hb : b = p
    · rw [hb, upd_same] at q; cases q; rw [hb]; exact hH
    · rw [upd_ne hb] at q; exact r'.wd.sub b x q
  · have hbp : b ≠ p := fun z => hA (z ▸ List.mem_of_getElem? hj)
    refine (r'.wd.own j b ob hj hb).ext sm (fun z => ?_) rfl
    show upd g'.F p o b = none
    rw [upd_ne hbp]; exact z
  · have hPp : P.2 ≠ p := fun z => by
      obtain ⟨⟨ps, h1, _⟩, _⟩ := r'.wd.tabs P hP
      rw [z, hH] at h1
      cases h1
      exact newAt_tbl hn
    exact (r'.wd.tabs P hP).mono rfl (show upd g'.F p o P.2 = g'.F P.2 by rw [upd_ne hPp]) rfl
  · exact has_ob (hn.mono sm) upd_same
theorem ve_fz {e : Expr} {f : FN} (h : VN X W e f) : VE X W e (vFz f) := let ⟨t, pe, run⟩ := h; ⟨t, pe, RN.fz run⟩
theorem obAt_new {K : PySem.W.Frag} {g : Gh} {p : Addr} {o : HO} {ob : Ob} (hn : NewAt K g.F ob o) (hF : g.F p = none) (hH : g.H p = some o) : ObAt K g p ob := by
  cases ob with
  | lst ds =>
    obtain ⟨xs, rfl, l⟩ := hn
    exact ⟨hF, xs, hH, l⟩
  | dct t ds => exact ⟨hF, by rw [hH]; exact hn⟩
  | fz d => exact hn.elim
theorem RN.own {K : PySem.W.Frag} {t : TE} {f : FN} (run : RN K W t f) : RE K W t (vOwn f) := by
  intro ρ st σ g Q rel k
  refine run ρ st σ g Q rel ?_
  refine KR.mono (KR.bind k) (fun a ha p o g' e r' hp hH hF hA hn => ?_) fun n s hn => hn
  obtain ⟨B, hB, nB⟩ := e.new
  have ex : Ext g ⟨g'.F, g'.A ++ [p], g'.H⟩ := ⟨e.frz, ⟨B ++ [p], by show g'.A ++ [p] = _; rw [hB, List.append_assoc], fun b hb => by
    rcases List.mem_append.mp hb with hb | hb
    · exact nB b hb
    · rw [List.mem_singleton.mp hb]; exact hp⟩, e.keep, e.there, e.raw, e.tbl⟩
  have gl : ∀ {k : Nat} {b : Addr}, g'.A[k]? = some b → (g'.A ++ [p])[k]? = some b := fun {k b} hk => by
    rw [List.getElem?_append_left (List.getElem?_eq_some_iff.mp hk).1]; exact hk
  refine ha (.ref p) ⟨g'.F, g'.A ++ [p], g'.H⟩ ex ⟨⟨r'.wd.sub, ?_, ?_, ?_, fun j b ob hj hb => ?_, fun P hP => ?_⟩, ?_⟩ ⟨p, ?_, rfl⟩
  · exact List.nodup_append.mpr ⟨r'.wd.nd, by simp, fun x hx y hy => by rw [List.mem_singleton.mp hy]; exact fun z => hA (z ▸ hx)⟩
  · simp [r'.wd.len]
  · intro b hb
    rcases List.mem_append.mp hb with hb | hb
    · exact r'.wd.there b hb
    · rw [List.mem_singleton.mp hb]; exact ⟨o, hH⟩
  · by_cases hjl : j < g'.A.length
    · rw [List.getElem?_append_left hjl] at hj
      rw [List.getElem?_append_left (by rw [← r'.wd.len]; exact hjl)] at hb
      exact r'.wd.own j b ob hj hb
    · rw [List.getElem?_append_right (by omega)] at hj
      rw [List.getElem?_append_right (by rw [← r'.wd.len]; omega), ← r'.wd.len] at hb
      have hj0 : j - g'.A.length = 0 := by
        have := (List.getElem?_eq_some_iff.mp hj).1
        simp at this; omega
      rw [hj0] at hj hb
      cases hj; cases hb
      exact obAt_new hn hF hH
  · obtain ⟨⟨ps, h1, h2⟩, h3, h4⟩ := r'.wd.tabs P hP
    refine ⟨⟨ps, h1, h2⟩, h3, fun hm => ?_⟩
    rcases List.mem_append.mp hm with hm | hm
    · exact h4 hm
    · rw [List.mem_singleton.mp hm, hH] at h1
      cases h1
      exact newAt_tbl hn
  · refine ⟨r'.sl.1, fun i d hi => ?_⟩
    obtain ⟨v, h1, h2⟩ := r'.sl.2 i d hi
    refine ⟨v, h1, ?_⟩
    cases d with
    | p d => exact h2
    | loc k =>
      obtain ⟨b, q1, q2⟩ := h2
      exact ⟨b, gl q1, q2⟩
  · show (g'.A ++ [p])[a.2.length]? = some p
    rw [List.getElem?_append_right (by rw [r'.wd.len]; exact Nat.le_refl _), r'.wd.len, Nat.sub_self]; rfl
theorem ve_own {e : Expr} {f : FN} (h : VN X W e f) : VE X W e (vOwn f) := let ⟨t, pe, run⟩ := h; ⟨t, pe, RN.own run⟩
def nLst (f : FA) : FN := fun ρ st => fzA f ρ st >>= fun a => if a.1.length ≤ LIM then .ok (.lst a.1, a.2) else .bad
theorem okN.goes {K : PySem.W.Frag} {ρ : Slots} {σ : L2.St} {Q : VK} : Goes (okN K ρ σ Q) := fun g g' b e h p o g2 e2 r hp => h p o g2 (e.trans e2) r (e.there p hp)
theorem vn_lst {es : List Expr} {f : FA} {pos} (h : VA X W es f) : VN X W (.List es pos) (nLst f) := by
  obtain ⟨t, pa, run⟩ := h.fz
  refine ⟨_, pe_lst pa, fun ρ st σ g Q rel k => ?_⟩
  refine run ρ st σ g _ (okN X.K ρ σ Q) _ okN.goes rel k fun ds st1 vs g1 e1 r1 h1 k1 => ?_
  split at k1
  · rename_i hl
    exact ⟨by rw [lim_eq, h1.1]; exact hl, fun p hp => okN_new r1 k1 hp ⟨vs, rfl, h1⟩⟩
  · exact k1.elim
def nListOf (f : FE) : FN := fun ρ st => f ρ st >>= fun a => peek a.2 a.1 >>= fun d => optR (itemsOf d) >>= fun ds => .ok (.lst ds, a.2)
theorem vn_listOf {x : Str} {p pos : Pos} {e : Expr} {f : FE} (hg : Gl X x) (hm : X.mg x = none) (hv : bootBuiltins x = some (.type "list")) (h : VE X W e f) (hn : x ≠ "__name__" := by decide) (hdb : (x == ("__debug__" : Str)) = false := by decide)
    (he : starEach [e] X.env = (false, eval e X.env) :: starEach [] X.env := by rfl) (hpl : (backTo pos (starEach [] X.env)).any (·.1) = false := by rfl) :
    VN X W (.Call (.Name x p) [e] [] pos) (nListOf f) := by
  obtain ⟨t, pe, run⟩ := h.run
  refine ⟨_, pe_callTy call_list_of hg hm hv (pa_cons (hs := he) pe pa_nil) hn hdb he hpl, fun ρ st σ g Q rel k => ?_⟩
  refine run ρ st σ g _ (okN X.K ρ σ Q) _ okN.goes rel k fun d1 st1 v1 g1 e1 r1 h1 k1 => ?_
  obtain ⟨x, px, k2⟩ := peek_bind k1
  cases ei : itemsOf x with
  | none => rw [ei] at k2; exact k2.elim
  | some ds =>
    rw [ei] at k2
    obtain ⟨a, xs, rfl, s, l⟩ := (pk_of r1.wd h1 px).sq r1.wd ei
    exact ⟨a, xs, rfl, s, fun q hq => okN_new r1 k2 hq ⟨xs, rfl, l⟩⟩

/-! ### statements -/
inductive Out where
  | nx | rt (d : Vd) | bk | ct | ex (n : Str)
abbrev RS := R (Out × Slots × Store)
abbrev FS := Slots → Store → RS
def okS (K : PySem.W.Frag) (W : Wish) (D : Ends) (g : Gh) (a : Out × Slots × Store) : Prop := match a.1 with
  | .nx => ∀ σ' g', Ext g g' → Rel K a.2.1 a.2.2 σ' g' → D.nx σ' g'.H
  | .rt d => ∀ v σ' g', Ext g g' → Rel K a.2.1 a.2.2 σ' g' → HasV K g' d v → D.rt v g'.H
  | .bk => ∀ σ' g', Ext g g' → Rel K a.2.1 a.2.2 σ' g' → D.bk σ' g'.H
  | .ct => ∀ σ' g', Ext g g' → Rel K a.2.1 a.2.2 σ' g' → D.ct σ' g'.H
  | .ex n => ∀ σ' g', Ext g g' → Rel K a.2.1 a.2.2 σ' g' → W n σ' g'.H
theorem okS.goes {K : PySem.W.Frag} {W : Wish} {D : Ends} : Goes (okS K W D) := fun g g' b e h => by
  obtain ⟨o, ρ, st⟩ := b
  cases o with
  | nx => exact fun σ' g2 e2 => h σ' g2 (e.trans e2)
  | rt d => exact fun v σ' g2 e2 => h v σ' g2 (e.trans e2)
  | bk => exact fun σ' g2 e2 => h σ' g2 (e.trans e2)
  | ct => exact fun σ' g2 e2 => h σ' g2 (e.trans e2)
  | ex n => exact fun σ' g2 e2 => h σ' g2 (e.trans e2)
abbrev no : Str → Store → Prop := fun _ _ => False
abbrev KS (K : PySem.W.Frag) (W : Wish) (D : Ends) (g : Gh) : RS → Prop := KR no (okS K W D g)
theorem KS.ext {K : PySem.W.Frag} {W : Wish} {D : Ends} {g g' : Gh} {r : RS} (e : Ext g g') (h : KS K W D g r) : KS K W D g' r := KR.mono h (fun b hb => okS.goes g g' b e hb) fun _ _ z => z
def VS (X : Cx) (W : Wish) (s : Stmt) (f : FS) : Prop := ∃ t, PS X s t ∧ ∀ ρ st σ g D, Rel X.K ρ st σ g → KS X.K W D g (f ρ st) → t D σ g.H
def VSs (X : Cx) (W : Wish) (s : List Stmt) (f : FS) : Prop := ∃ t, PSs X s t ∧ ∀ ρ st σ g D, Rel X.K ρ st σ g → KS X.K W D g (f ρ st) → t D σ g.H
/-- an expression's answer within a statement -/
def liftS {α : Type} (ρ : Slots) (r : R α) (k : α → RS) : RS := match r with
  | .ok a => k a
  | .exc n st => .ok (.ex n, ρ, st)
  | .bad => .bad
@[simp] theorem liftS_ok {α : Type} (ρ : Slots) (a : α) (k : α → RS) : liftS ρ (.ok a) k = k a := rfl
@[simp] theorem liftS_exc {α : Type} (ρ : Slots) (n : Str) (st : Store) (k : α → RS) : liftS ρ (.exc n st) k = .ok (.ex n, ρ, st) := rfl
@[simp] theorem liftS_bad {α : Type} (ρ : Slots) (k : α → RS) : liftS ρ (.bad) k = .bad := rfl
theorem RE.runS {K : PySem.W.Frag} {t : TE} {f : FE} (run : RE K W t f) : ∀ (ρ : Slots) (st : Store) (σ : L2.St) (g : Gh) (P : VK) (D : Ends) (k : Vd × Store → RS), Rel K ρ st σ g →
    KS K W D g (liftS ρ (f ρ st) k) → (∀ d st1 v g1, Ext g g1 → Rel K ρ st1 σ g1 → HasV K g1 d v → KS K W D g1 (k (d, st1)) → P v g1.H) → t σ g.H P := by
  intro ρ st σ g P D k rel kr hP
  refine run ρ st σ g P rel ?_
  cases hf : f ρ st with
  | ok a =>
    rw [hf] at kr
    exact fun v g1 e r hv => hP a.1 a.2 v g1 e r hv (KS.ext e kr)
  | exc n s =>
    rw [hf] at kr
    exact fun g1 e r => kr σ g1 e r
  | bad => rw [hf] at kr; exact kr.elim
theorem VE.runS {e : Expr} {f : FE} (h : VE X W e f) : ∃ t, PE X e t ∧ ∀ (ρ : Slots) (st : Store) (σ : L2.St) (g : Gh) (P : VK) (D : Ends) (k : Vd × Store → RS), Rel X.K ρ st σ g →
    KS X.K W D g (liftS ρ (f ρ st) k) → (∀ d st1 v g1, Ext g g1 → Rel X.K ρ st1 σ g1 → HasV X.K g1 d v → KS X.K W D g1 (k (d, st1)) → P v g1.H) → t σ g.H P := by
  obtain ⟨t, pe, run⟩ := h
  refine ⟨t, pe, fun ρ st σ g P D k rel kr hP => run ρ st σ g P rel ?_⟩
  cases hf : f ρ st with
  | ok a =>
    rw [hf] at kr
    exact fun v g1 e r hv => hP a.1 a.2 v g1 e r hv (KS.ext e kr)
  | exc n s =>
    rw [hf] at kr
    exact fun g1 e r => kr σ g1 e r
  | bad => rw [hf] at kr; exact kr.elim
theorem VT.runS {e : Expr} {f : FT} (h : VT X W e f) : ∃ t, PT X e t ∧ ∀ (ρ : Slots) (st : Store) (σ : L2.St) (g : Gh) (P : Bool → Hp → Prop) (D : Ends) (k : Bool × Store → RS), Rel X.K ρ st σ g →
    KS X.K W D g (liftS ρ (f ρ st) k) → (∀ d st1 g1, Ext g g1 → Rel X.K ρ st1 σ g1 → KS X.K W D g1 (k (d, st1)) → P d g1.H) → t σ g.H P := by
  obtain ⟨t, pe, run⟩ := h
  refine ⟨t, pe, fun ρ st σ g P D k rel kr hP => run ρ st σ g P rel ?_⟩
  cases hf : f ρ st with
  | ok a =>
    rw [hf] at kr
    exact fun g1 e r => hP a.1 a.2 g1 e r (KS.ext e kr)
  | exc n s =>
    rw [hf] at kr
    exact fun g1 e r => kr σ g1 e r
  | bad => rw [hf] at kr; exact kr.elim
def sNil : FS := fun ρ st => .ok (.nx, ρ, st)
def sSeq (f h : FS) : FS := fun ρ st => f ρ st >>= fun a => match a.1 with
  | .nx => h a.2.1 a.2.2
  | o => .ok (o, a.2)
theorem vss_nil : VSs X W [] sNil := ⟨_, pss_nil, fun ρ st σ g D rel k => k σ g (Ext.refl g) rel⟩
theorem seq_run {D : Ends} {g : Gh} {f h : FS} {ρ : Slots} {st : Store} {u : TS} (hu : ∀ ρ st σ g D, Rel X.K ρ st σ g → KS X.K W D g (h ρ st) → u D σ g.H) (k : KS X.K W D g (sSeq f h ρ st)) : KS X.K W { D with nx := u D } g (f ρ st) := by
  unfold sSeq at k
  refine KR.mono (KR.bind k) (fun a ha => ?_) fun n s hn => hn
  obtain ⟨o, ρ', st'⟩ := a
  cases o with
  | nx => exact fun σ' g' e r => hu ρ' st' σ' g' D r (KS.ext e ha)
  | rt d => exact ha
  | bk => exact ha
  | ct => exact ha
  | ex n => exact ha
theorem vss_cons {s : Stmt} {ss : List Stmt} {f h : FS} (a : VS X W s f) (b : VSs X W ss h) : VSs X W (s :: ss) (sSeq f h) := by
  obtain ⟨t, pt, run⟩ := a
  obtain ⟨u, pu, run2⟩ := b
  exact ⟨_, pss_cons pt pu, fun ρ st σ g D rel k => run ρ st σ g _ rel (seq_run run2 k)⟩
theorem vss_one {s : Stmt} {f : FS} (a : VS X W s f) : VSs X W [s] f := let ⟨t, pt, run⟩ := a; ⟨_, pss_one pt, run⟩
def sBk : FS := fun ρ st => .ok (.bk, ρ, st)
def sCt : FS := fun ρ st => .ok (.ct, ρ, st)
theorem vs_pass {pos : Pos} : VS X W (.Pass pos) sNil := ⟨_, ps_pass, fun ρ st σ g D rel k => k σ g (Ext.refl g) rel⟩
theorem vs_break {pos : Pos} : VS X W (.Break pos) sBk := ⟨_, ps_break, fun ρ st σ g D rel k => k σ g (Ext.refl g) rel⟩
theorem vs_cont {pos : Pos} : VS X W (.Continue pos) sCt := ⟨_, ps_continue, fun ρ st σ g D rel k => k σ g (Ext.refl g) rel⟩
def sRet (f : FE) : FS := fun ρ st => liftS ρ (f ρ st) fun a => .ok (.rt a.1, ρ, a.2)
theorem vs_ret {e : Expr} {f : FE} {pos : Pos} (h : VE X W e f) : VS X W (.Return (some e) pos) (sRet f) := by
  obtain ⟨t, pe, run⟩ := h.runS
  refine ⟨_, ps_ret pe, fun ρ st σ g D rel k => ?_⟩
  exact run ρ st σ g _ D _ rel k fun d st1 v g1 e1 r1 h1 k1 => k1 v σ g1 (Ext.refl g1) r1 h1
def sRetN : FS := fun ρ st => .ok (.rt (.p .none), ρ, st)
theorem vs_retN {pos : Pos} : VS X W (.Return none pos) sRetN := ⟨_, ps_retN, fun ρ st σ g D rel k => k .non σ g (Ext.refl g) rel .non⟩
def sExpr (f : FE) : FS := fun ρ st => liftS ρ (f ρ st) fun a => .ok (.nx, ρ, a.2)
theorem vs_expr {e : Expr} {f : FE} {pos : Pos} (h : VE X W e f) (hs : swapsWith e none pos.line X.env = pure false := by rfl) : VS X W (.Expr e pos) (sExpr f) := by
  obtain ⟨t, pe, run⟩ := h.runS
  refine ⟨_, ps_expr pe hs, fun ρ st σ g D rel k => ?_⟩
  exact run ρ st σ g _ D _ rel k fun d st1 v g1 e1 r1 h1 k1 => k1 σ g1 (Ext.refl g1) r1
def sIf (c : FT) (f h : FS) : FS := fun ρ st => liftS ρ (c ρ st) fun a => if a.1 = true then f ρ a.2 else h ρ a.2
theorem vs_if {c : Expr} {a b : List Stmt} {fc : FT} {f h : FS} {pos : Pos} (hc : VT X W c fc) (ha : VSs X W a f) (hb : VSs X W b h) : VS X W (.If c a b pos) (sIf fc f h) := by
  obtain ⟨t, pt, run⟩ := hc.runS
  obtain ⟨u, pu, run2⟩ := ha
  obtain ⟨v, pv, run3⟩ := hb
  refine ⟨_, ps_if pt pu pv, fun ρ st σ g D rel k => ?_⟩
  refine run ρ st σ g _ D _ rel k fun d st1 g1 e1 r1 k1 => ?_
  cases d with
  | true => rw [if_pos rfl] at k1 ⊢; exact run2 ρ st1 σ g1 D r1 k1
  | false => rw [if_neg Bool.false_ne_true] at k1 ⊢; exact run3 ρ st1 σ g1 D r1 k1

/-! ### targets -/
abbrev FG := Vd → Slots → Store → R Slots
/-- the slots but those at vs stand as they stood -/
def But (vs : List Nat) (σ σ' : L2.St) : Prop := σ'.length = σ.length ∧ ∀ j, j ∉ vs → σ'[j]? = σ[j]?
theorem But.refl {vs : List Nat} (σ : L2.St) : But vs σ σ := ⟨rfl, fun _ _ => rfl⟩
theorem But.trans {vs : List Nat} {a b c : L2.St} (h : But vs a b) (h' : But vs b c) : But vs a c := ⟨h'.1.trans h.1, fun j hj => (h'.2 j hj).trans (h.2 j hj)⟩
def VG (X : Cx) (vs : List Nat) (tg : Expr) (f : FG) : Prop :=
  ∃ t, PG X tg t ∧ ∀ ρ st σ g d v (Q : L2.St → Hp → Prop), Rel X.K ρ st σ g → HasV X.K g d v → KR no (fun ρ' => ∀ σ', But vs σ σ' → Rel X.K ρ' st σ' g → Q σ' g.H) (f d ρ st) → t v σ g.H Q
theorem Sl.set {K : PySem.W.Frag} {g : Gh} {ρ : Slots} {σ : L2.St} (h : Sl K g ρ σ) {d : Vd} {v : V} (hv : HasV K g d v) (i : Nat) : Sl K g (ρ.set i (some d)) (σ.set i (some v)) := by
  refine ⟨by simp [h.1], fun j e hj => ?_⟩
  rw [List.getElem?_set] at hj
  split at hj
  · rename_i hij
    subst hij
    split at hj
    · rename_i hl
      cases hj
      exact ⟨v, by rw [List.getElem?_set_self (by rw [h.1]; exact hl)], hv⟩
    · cases hj
  · rename_i hij
    obtain ⟨w, h1, h2⟩ := h.2 j e hj
    exact ⟨w, by rw [List.getElem?_set_ne hij]; exact h1, h2⟩
def gSet (i : Nat) : FG := fun d ρ _ => .ok (ρ.set i (some d))
theorem vg_name {i : Nat} {x : Str} {pos : Pos} (hN : X.N.Nodup) (hi : X.N[i]? = some x) (hx : Loc X.env.scope x) (hf : X.fn x = true ∨ X.env.scope.names.lookup x = some .local := by first | exact .inl rfl | exact .inr rfl | assumption) : VG X [i] (.Name x pos) (gSet i) :=
  ⟨_, pg_name hN hi hx hf, fun ρ st σ g d v Q rel hv k => k _ ⟨by simp, fun j hj => List.getElem?_set_ne (fun e => hj (by simp [e]))⟩ ⟨rel.wd, rel.sl.set hv i⟩⟩
abbrev FGs := List Vd → Slots → Store → R Slots
def VGs (X : Cx) (ws : List Nat) (ts : List Expr) (f : FGs) : Prop :=
  ∃ t, PGs X ts t ∧ ∀ ρ st σ g ds vs (Q : L2.St → Hp → Prop), Rel X.K ρ st σ g → HasVL X.K g ds vs → KR no (fun ρ' => ∀ σ', But ws σ σ' → Rel X.K ρ' st σ' g → Q σ' g.H) (f ds ρ st) → t vs σ g.H Q
def gsNil : FGs := fun ds ρ _ => match ds with
  | [] => .ok ρ
  | _ => .bad
def gsCons (f : FG) (h : FGs) : FGs := fun ds ρ st => match ds with
  | d :: r => f d ρ st >>= fun ρ' => h r ρ' st
  | [] => .bad
theorem vgs_nil : VGs X [] [] gsNil := by
  refine ⟨_, pgs_nil, fun ρ st σ g ds vs Q rel hv k => ?_⟩
  cases ds with
  | nil => exact ⟨hv.nil_inv, k σ (But.refl σ) rel⟩
  | cons d r => exact k.elim
theorem vgs_cons {e : Expr} {es : List Expr} {f : FG} {h : FGs} {v1 v2 : List Nat} (a : VG X v1 e f) (b : VGs X v2 es h) (hs : (assignEach (e :: es) X.env).map (·.2) = assign e X.env :: (assignEach es X.env).map (·.2) := by rfl) : VGs X (v1 ++ v2) (e :: es) (gsCons f h) := by
  obtain ⟨t, pt, run⟩ := a
  obtain ⟨u, pu, run2⟩ := b
  refine ⟨_, pgs_cons pt pu hs, fun ρ st σ g ds vs Q rel hv k => ?_⟩
  cases ds with
  | nil => exact k.elim
  | cons d r =>
    obtain ⟨v, vr, rfl, h1, h2⟩ := hv.uncons
    refine ⟨v, vr, rfl, run ρ st σ g d v _ rel h1 ?_⟩
    refine KR.mono (KR.bind k) (fun ρ' hρ σ' b1 r' => ?_) fun n s hn => hn
    refine run2 ρ' st σ' g r vr Q r' h2 (KR.mono hρ (fun ρ2 h2 σ2 b2 r2 => h2 σ2 ?_ r2) fun n s hn => hn)
    exact ⟨b2.1.trans b1.1, fun j hj => (b2.2 j fun z => hj (List.mem_append_right _ z)).trans (b1.2 j fun z => hj (List.mem_append_left _ z))⟩
theorem PG.or {tg : Expr} {t t' : TG} (a : PG X tg t) (b : PG X tg t') : PG X tg (fun v σ H Q => t v σ H Q ∨ t' v σ H Q) := ⟨fun pins s σ H v u Q I r h => by
  rcases h with h | h
  · exact a.run pins s σ H v u Q I r h
  · exact b.run pins s σ H v u Q I r h⟩
/-- a tuple or a list taken apart -/
def gTupV (n : Nat) (f : FGs) : FG := fun d ρ st => peek st d >>= fun x => optR (itemsOf x) >>= fun ds => if ds.length = n then f (ds.map .p) ρ st else .bad
theorem HasL.vl {K : PySem.W.Frag} {g : Gh} {ds : List PyData} {xs : List V} (h : HasL K g.F ds xs) : HasVL K g (ds.map .p) xs := ⟨by rw [List.length_map]; exact h.1, fun i d v hd hv => by
  rw [List.getElem?_map] at hd
  cases e : ds[i]? with
  | none => rw [e] at hd; cases hd
  | some x => rw [e] at hd; cases hd; exact h.2 i x v e hv⟩
theorem optR_bind {α β : Type} {ne : Str → Store → Prop} {ok : β → Prop} {o : Option α} {k : α → R β} (h : KR ne ok (optR o >>= k)) : ∃ a, o = some a ∧ KR ne ok (k a) := by
  cases o with
  | some a => exact ⟨a, rfl, h⟩
  | none => exact h.elim
theorem vg_tup {es : List Expr} {k : Nat} {f : FGs} {n : Nat} {vs : List Nat} {pos : Pos} (hc : X.calm = true) (h : VGs X vs es f) (hn : (assignEach es X.env).length = n := by rfl) (hst : (assignEach es X.env).findIdx? (·.1) = none := by rfl) : VG X vs (.Tuple es k pos) (gTupV n f) := by
  obtain ⟨t, pt, run⟩ := h
  refine ⟨_, PG.or (pg_tup hc pt hn hst) (pg_lst hc pt hn hst), fun ρ st σ g d v Q rel hv k => ?_⟩
  obtain ⟨x, px, k1⟩ := peek_bind k
  obtain ⟨ds, ei, k2⟩ := optR_bind k1
  split at k2
  · rename_i hl
    obtain ⟨a, xs, rfl, s, l⟩ := (pk_of rel.wd hv px).sq rel.wd ei
    rcases s with s | s
    · exact .inr ⟨a, xs, rfl, s, l.1.trans hl, run ρ st σ g (ds.map .p) xs Q rel l.vl k2⟩
    · exact .inl ⟨a, xs, rfl, s, l.1.trans hl, run ρ st σ g (ds.map .p) xs Q rel l.vl k2⟩
  · exact k2.elim
def sAsg (f : FE) (h : FG) : FS := fun ρ st => liftS ρ (f ρ st) fun a => h a.1 ρ a.2 >>= fun ρ' => .ok (.nx, ρ', a.2)
theorem vs_asg {tg e : Expr} {f : FE} {h : FG} {vs : List Nat} {pos : Pos} (he : VE X W e f) (hg : VG X vs tg h) (hs : swapsWithSole [tg] e pos.line X.env = pure false := by rfl) (hw : swappedStores [tg] e X.env = pure none := by rfl)
    (h1 : (assignEach [tg] X.env).map (·.2) = [assign tg X.env] := by rfl) : VS X W (.Assign [tg] e pos) (sAsg f h) := by
  obtain ⟨t, pe, run⟩ := he.runS
  obtain ⟨u, pu, run2⟩ := hg
  refine ⟨_, ps_asg pe pu hs hw h1, fun ρ st σ g D rel k => ?_⟩
  refine run ρ st σ g _ D _ rel k fun d st1 v g1 e1 r1 hv k1 => ?_
  refine run2 ρ st1 σ g1 d v _ r1 hv ?_
  exact KR.mono (KR.bind k1) (fun ρ' hρ σ' _ r' => hρ σ' g1 (Ext.refl g1) r') fun n s hn => hn
def sSet (i : Nat) (f : FE) : FS := fun ρ st => liftS ρ (f ρ st) fun a => .ok (.nx, ρ.set i (some a.1), a.2)
theorem rs_set {K : PySem.W.Frag} {t : TE} {f : FE} {i : Nat} (run : RE K W t f) (ρ : Slots) (st : Store) (σ : L2.St) (g : Gh) (D : Ends) (rel : Rel K ρ st σ g) (k : KS K W D g (sSet i f ρ st)) : tAsg t (gName i) D σ g.H :=
  RE.runS run ρ st σ g _ D _ rel k fun d st1 v g1 e1 r1 hv k1 => k1 _ g1 (Ext.refl g1) ⟨r1.wd, r1.sl.set hv i⟩
theorem vs_set {i : Nat} {x : Str} {e : Expr} {f : FE} {pos pos' : Pos} (hN : X.N.Nodup) (hi : X.N[i]? = some x) (hx : Loc X.env.scope x) (he : VE X W e f) (hs : swapsWith e (some (.Name x pos')) pos.line X.env = pure false := by rfl) (hf : X.fn x = true ∨ X.env.scope.names.lookup x = some .local := by first | exact .inl rfl | exact .inr rfl | assumption) :
    VS X W (.Assign [.Name x pos'] e pos) (sSet i f) := by
  obtain ⟨t, pe, run⟩ := he.runS
  refine ⟨_, ps_set hN hi hx pe hs hf, fun ρ st σ g D rel k => ?_⟩
  refine run ρ st σ g _ D _ rel k fun d st1 v g1 e1 r1 hv k1 => ?_
  exact k1 _ g1 (Ext.refl g1) ⟨r1.wd, r1.sl.set hv i⟩
end
end VL

namespace VL
open PySem PySem.Spec PyProof.Rows L2

/-- what is walked: its items; own: the store's object that holds them -/
structure Src where
  ds : List PyData
  own : Option Nat
def Src.Ok (s : Src) (st : Store) : Prop := match s.own with
  | none => True
  | some k => st[k]? = some (.lst s.ds)
abbrev FI := Slots → Store → R (Src × Store)
/-- what a walk needs of the world's going on -/
structure ExtW (g g' : Gh) : Prop where
  frz : Same g.F g'.F
  new : ∃ B, g'.A = g.A ++ B ∧ True
theorem Ext.w {g g' : Gh} (e : Ext g g') : ExtW g g' := ⟨e.frz, let ⟨B, h, _⟩ := e.new; ⟨B, h, trivial⟩⟩
theorem ExtW.trans {g g1 g2 : Gh} (a : ExtW g g1) (b : ExtW g1 g2) : ExtW g g2 := by
  obtain ⟨B1, e1, _⟩ := a.new
  obtain ⟨B2, e2, _⟩ := b.new
  exact ⟨a.frz.trans b.frz, B1 ++ B2, by rw [e2, e1, List.append_assoc], trivial⟩
/-- the walk J hands out the items -/
def WalkD (K : PySem.W.Frag) (s : Src) (g0 : Gh) (J : It) : Prop := ∀ (st : Store) (g : Gh), ExtW g0 g → Wd K st g → s.Ok st →
  (∀ i, i < s.ds.length → J.go i g.H) ∧ (∀ i, s.ds.length ≤ i → J.stop i g.H) ∧
  ∀ i x H' d, s.ds[i]? = some d → J.yld i g.H x H' → ∃ g', g'.H = H' ∧ Ext g g' ∧ Wd K st g' ∧ Has K g'.F d x
section
variable {X : Cx} {W : Wish}
def okI (K : PySem.W.Frag) (ρ : Slots) (σ : L2.St) (P : It → Hp → Prop) (g : Gh) (a : Src × Store) : Prop := ∀ J g', Ext g g' → Rel K ρ a.2 σ g' → a.1.Ok a.2 → WalkD K a.1 g' J → P J g'.H
theorem okI.goes {K : PySem.W.Frag} {ρ : Slots} {σ : L2.St} {P : It → Hp → Prop} : Goes (okI K ρ σ P) := fun g g' b e h J g2 e2 => h J g2 (e.trans e2)
def VI (X : Cx) (W : Wish) (tg iter : Expr) (f : FI) : Prop :=
  ∃ wi, PI X tg iter wi ∧ ∀ ρ st σ g P, Rel X.K ρ st σ g → KR (WN X.K W ρ σ g) (okI X.K ρ σ P g) (f ρ st) → wi σ g.H P
theorem VI.runS {tg iter : Expr} {f : FI} (h : VI X W tg iter f) : ∃ wi, PI X tg iter wi ∧ ∀ (ρ : Slots) (st : Store) (σ : L2.St) (g : Gh) (P : It → Hp → Prop) (D : Ends) (k : Src × Store → RS), Rel X.K ρ st σ g →
    KS X.K W D g (liftS ρ (f ρ st) k) → (∀ s st1 J g1, Ext g g1 → Rel X.K ρ st1 σ g1 → s.Ok st1 → WalkD X.K s g1 J → KS X.K W D g1 (k (s, st1)) → P J g1.H) → wi σ g.H P := by
  obtain ⟨t, pe, run⟩ := h
  refine ⟨t, pe, fun ρ st σ g P D k rel kr hP => run ρ st σ g P rel ?_⟩
  cases hf : f ρ st with
  | ok a =>
    rw [hf] at kr
    exact fun J g1 e r o w => hP a.1 a.2 J g1 e r o w (KS.ext e kr)
  | exc n s =>
    rw [hf] at kr
    exact fun g1 e r => kr σ g1 e r
  | bad => rw [hf] at kr; exact kr.elim

/-! ### lists, tuples -/
def iAny (K : PySem.W.Frag) (tl : TE) : TI := fun σ H R => tl σ H fun x H1 => ∃ a, x = .ref a ∧ (((∃ xs, SqL K H1 a xs) ∧ R (Itl K a) H1) ∨ ((∃ xs, SqT K H1 a xs) ∧ R (Itt K a) H1))
theorem pi_any {tg l : Expr} {tl : TE} (hl : PE X l tl) : PI X tg l (iAny X.K tl) := by
  refine ⟨fun pins s σ H R I h => ?_⟩
  refine thn (hl.run pins s σ H _ I h) fun v s1 ⟨x, H1, I1, r1, q1⟩ => ?_
  obtain ⟨a, rfl, q⟩ := q1
  cases r1
  have hf : FpOk X pins H1 s1.heap.objs.size := I1.fpOk (Nat.le_refl _) (I1.hok.fresh (Nat.le_refl _))
  rcases q with ⟨⟨xs, hq⟩, q⟩ | ⟨⟨xs, hq⟩, q⟩
  · obtain ⟨its, rv, p, hz⟩ := I1.list hq
    refine wpAny_pyIter_list p.isList ⟨s1.heap.objs.size, [s1.heap.objs.size], _, _, H1, rfl, I1.kept (t' := s1.toks) fun b o e => Heap.get?_push_of_some _ e, turn_list a _, ⟨_, Heap.get?_push_size _ rfl, rfl, rfl⟩, fun b hb => ?_, q⟩
    rw [List.mem_singleton.mp hb]; exact hf
  · obtain ⟨its, rv, p, hz⟩ := I1.tuple hq
    refine wpAny_pyIter_tuple (show s1.heap.IsTuple a its.toArray from p) ⟨s1.heap.objs.size, [s1.heap.objs.size], _, _, H1, rfl, I1.kept (t' := s1.toks) fun b o e => Heap.get?_push_of_some _ e, turn_tuple a _, ⟨_, Heap.get?_push_size _ rfl, rfl, rfl⟩, fun b hb => ?_, q⟩
    rw [List.mem_singleton.mp hb]; exact hf
/-- where a value's items are: its own place, if it is one that may change -/
def srcOf (st : Store) (x : Vd) : R Src := match x with
  | .p d => optR (itemsOf d) >>= fun ds => .ok ⟨ds, none⟩
  | .loc k => match st[k]? with
    | some (.lst ds) => .ok ⟨ds, some k⟩
    | some (.fz d) => optR (itemsOf d) >>= fun ds => .ok ⟨ds, none⟩
    | _ => .bad
def iSeq (f : FE) : FI := fun ρ st => f ρ st >>= fun a => srcOf a.2 a.1 >>= fun s => .ok (s, a.2)
theorem walk_lst {K : PySem.W.Frag} {s : Src} {g0 : Gh} {a : Addr} (h : ∀ (st : Store) (g : Gh), ExtW g0 g → Wd K st g → s.Ok st → ∃ xs, SqL K g.H a xs ∧ HasL K g.F s.ds xs) : WalkD K s g0 (Itl K a) := by
  intro st g e w o
  obtain ⟨xs, q, l⟩ := h st g e w o
  refine ⟨fun i hi => ⟨xs, xs[i]'(by rw [l.1]; exact hi), q, List.getElem?_eq_getElem _⟩, fun i hi => ⟨xs, q, by rw [l.1]; exact hi⟩, fun i x H' d hd hy => ?_⟩
  obtain ⟨e1, hy⟩ := hy
  exact ⟨g, e1.symm, Ext.refl g, w, l.2 i d x hd (hy xs q)⟩
theorem walk_tup {K : PySem.W.Frag} {s : Src} {g0 : Gh} {a : Addr} (h : ∀ (st : Store) (g : Gh), ExtW g0 g → Wd K st g → s.Ok st → ∃ xs, SqT K g.H a xs ∧ HasL K g.F s.ds xs) : WalkD K s g0 (Itt K a) := by
  intro st g e w o
  obtain ⟨xs, q, l⟩ := h st g e w o
  refine ⟨fun i hi => ⟨xs, xs[i]'(by rw [l.1]; exact hi), q, List.getElem?_eq_getElem _⟩, fun i hi => ⟨xs, q, by rw [l.1]; exact hi⟩, fun i x H' d hd hy => ?_⟩
  obtain ⟨e1, hy⟩ := hy
  exact ⟨g, e1.symm, Ext.refl g, w, l.2 i d x hd (hy xs q)⟩
theorem has_items {K : PySem.W.Frag} {F : Hp} {d : PyData} {ds : List PyData} {v : V} (h : Has K F d v) (e : itemsOf d = some ds) : ∃ a xs, v = .ref a ∧ SqB K F a xs ∧ HasL K F ds xs := by
  cases d with
  | list xs =>
    cases e
    obtain ⟨a, vs, rfl, s, l⟩ := h.lst_inv
    exact ⟨a, vs, rfl, .inl s, l⟩
  | tuple xs =>
    cases e
    obtain ⟨a, vs, rfl, s, l⟩ := h.tup_inv
    exact ⟨a, vs, rfl, .inr s, l⟩
  | _ => cases e
theorem walk_of_has {K : PySem.W.Frag} {g0 : Gh} {a : Addr} {xs : List V} {ds : List PyData} (s : SqB K g0.F a xs) (l : HasL K g0.F ds xs) : (SqL K g0.F a xs ∧ WalkD K ⟨ds, none⟩ g0 (Itl K a)) ∨ (SqT K g0.F a xs ∧ WalkD K ⟨ds, none⟩ g0 (Itt K a)) := by
  rcases s with s | s
  · exact .inl ⟨s, walk_lst fun st g e w o => ⟨xs, (e.frz.trans w.sub).seq s, l.mono e.frz⟩⟩
  · exact .inr ⟨s, walk_tup fun st g e w o => ⟨xs, seqT_mono (e.frz.trans w.sub) s, l.mono e.frz⟩⟩
theorem vi_seq {tg l : Expr} {f : FE} (h : VE X W l f) : VI X W tg l (iSeq f) := by
  obtain ⟨t, pe, run⟩ := h.run
  refine ⟨_, pi_any pe, fun ρ st σ g P rel k => ?_⟩
  refine run ρ st σ g _ (okI X.K ρ σ P) _ okI.goes rel k fun d1 st1 v1 g1 e1 r1 h1 k1 => ?_
  have frozen : ∀ {d : PyData} {ds : List PyData}, Has X.K g1.F d v1 → itemsOf d = some ds → okI X.K ρ σ P g1 (⟨ds, none⟩, st1) → ∃ a, v1 = .ref a ∧ (((∃ xs, SqL X.K g1.H a xs) ∧ P (Itl X.K a) g1.H) ∨ ((∃ xs, SqT X.K g1.H a xs) ∧ P (Itt X.K a) g1.H)) := fun {d ds} hh ei k => by
    obtain ⟨a, xs, rfl, s, l⟩ := has_items hh ei
    refine ⟨a, rfl, ?_⟩
    rcases walk_of_has s l with ⟨s, w⟩ | ⟨s, w⟩
    · exact .inl ⟨⟨xs, r1.wd.sub.seq s⟩, k _ g1 (Ext.refl g1) r1 trivial w⟩
    · exact .inr ⟨⟨xs, seqT_mono r1.wd.sub s⟩, k _ g1 (Ext.refl g1) r1 trivial w⟩
  cases d1 with
  | p d =>
    obtain ⟨s, es, k2⟩ : ∃ s, srcOf st1 (.p d) = .ok s ∧ okI X.K ρ σ P g1 (s, st1) := by
      cases ei : itemsOf d with
      | none => simp only [srcOf, ei] at k1; exact k1.elim
      | some ds => simp only [srcOf, ei] at k1; exact ⟨⟨ds, none⟩, by simp only [srcOf, ei]; rfl, k1⟩
    cases ei : itemsOf d with
    | none => simp only [srcOf, ei] at es; cases es
    | some ds =>
      have : s = ⟨ds, none⟩ := by simp only [srcOf, ei] at es; cases es; rfl
      subst this
      exact frozen h1 ei k2
  | loc j =>
    obtain ⟨a, ha, rfl⟩ := h1
    simp only [srcOf] at k1
    cases ej : st1[j]? with
    | none => simp only [ej] at k1; exact k1.elim
    | some ob =>
      have own := r1.wd.own j a ob ha ej
      cases ob with
      | lst ds =>
        simp only [ej] at k1
        obtain ⟨_, xs, hx, l⟩ := own
        refine ⟨a, rfl, .inl ⟨⟨xs, .inl (.inl hx)⟩, k1 _ g1 (Ext.refl g1) r1 (show st1[j]? = _ from ej) (walk_lst fun st g e w o => ?_)⟩⟩
        obtain ⟨B, hB, _⟩ := e.new
        have hj : g.A[j]? = some a := by rw [hB, List.getElem?_append_left (List.getElem?_eq_some_iff.mp ha).1]; exact ha
        obtain ⟨_, ys, hy, l2⟩ := w.own j a _ hj (show st[j]? = some (.lst ds) from o)
        exact ⟨ys, .inl (.inl hy), l2⟩
      | fz d =>
        cases ei : itemsOf d with
        | none => simp only [ej, ei] at k1; exact k1.elim
        | some ds =>
          simp only [ej, ei] at k1
          exact frozen own ei k1
      | dct t ds => simp only [ej] at k1; exact k1.elim

/-! ### range -/
def rangeD (lo hi : Int) : List PyData := (List.range (hi - lo).toNat).map fun (i : Nat) => .int (lo + i)
theorem rangeD_len (lo hi : Int) : (rangeD lo hi).length = (hi - lo).toNat := by simp [rangeD]
theorem rangeD_get {lo hi : Int} {i : Nat} {d : PyData} (h : (rangeD lo hi)[i]? = some d) : d = .int (lo + i) := by
  unfold rangeD at h
  rw [List.getElem?_map] at h
  cases e : (List.range (hi - lo).toNat)[i]? with
  | none => rw [e] at h; cases h
  | some j =>
    rw [e] at h
    obtain ⟨h1, h2⟩ := List.getElem?_eq_some_iff.mp e
    rw [List.getElem_range] at h2
    cases h; rw [h2]
theorem walk_range {K : PySem.W.Frag} {g0 : Gh} (lo hi : Int) : WalkD K ⟨rangeD lo hi, none⟩ g0 (Itr lo (hi - lo).toNat) := by
  intro st g e w o
  refine ⟨fun i hi' => ?_, fun i hi' => ?_, fun i x H' d hd hy => ?_⟩
  · have hi' : i < (rangeD lo hi).length := hi'
    rw [rangeD_len] at hi'; exact hi'
  · have hi' : (rangeD lo hi).length ≤ i := hi'
    rw [rangeD_len] at hi'; exact hi'
  · obtain ⟨e1, e2⟩ := hy
    refine ⟨g, e1.symm, Ext.refl g, w, ?_⟩
    rw [rangeD_get hd, e2]; exact .int _
def In62 (i : Int) : Prop := -(2 ^ 62) ≤ i ∧ i < 2 ^ 62
noncomputable instance (i : Int) : Decidable (In62 i) := Classical.propDecidable _
noncomputable def iRange1 (f : FE) : FI := fun ρ st => f ρ st >>= fun a => match a.1 with
  | .p (.int n) => if In62 n then .ok (⟨rangeD 0 n, none⟩, a.2) else .bad
  | _ => .bad
theorem vi_range1 {tg a : Expr} {f : FE} {p pos : Pos} (hg : Gl X "range") (hm : X.mg "range" = none) (h : VE X W a f) (hs : starEach [a] X.env = [(false, eval a X.env)] := by rfl) (he : starEach [a] X.env = (false, eval a X.env) :: starEach [] X.env := by rfl) : VI X W tg (.Call (.Name "range" p) [a] [] pos) (iRange1 f) := by
  obtain ⟨t, pe, run⟩ := h.run
  refine ⟨_, pi_range1 hg hm (pa_cons (hs := he) pe pa_nil) hs, fun ρ st σ g P rel k => ?_⟩
  refine run ρ st σ g _ (okI X.K ρ σ P) _ okI.goes rel k fun d1 st1 v1 g1 e1 r1 h1 k1 => ?_
  cases d1 with
  | loc _ => exact k1.elim
  | p d =>
    cases d with
    | int n =>
      simp only at k1
      split at k1
      · rename_i hn
        refine ⟨n, by rw [show v1 = .int n from Has.int_inv h1], hn.1, hn.2, ?_⟩
        have := k1 _ g1 (Ext.refl g1) r1 trivial (walk_range 0 n)
        rw [Int.sub_zero] at this; exact this
      · exact k1.elim
    | _ => exact k1.elim
noncomputable def iRange2 (f h : FE) : FI := fun ρ st => f ρ st >>= fun a => h ρ a.2 >>= fun b => match a.1, b.1 with
  | .p (.int m), .p (.int n) => if In62 m ∧ In62 n then .ok (⟨rangeD m n, none⟩, b.2) else .bad
  | _, _ => .bad
theorem vi_range2 {tg a b : Expr} {f h : FE} {p pos : Pos} (hg : Gl X "range") (hm : X.mg "range" = none) (ha : VE X W a f) (hb : VE X W b h) (hs : starEach [a, b] X.env = [(false, eval a X.env), (false, eval b X.env)] := by rfl) (hs2 : starEach [b] X.env = [(false, eval b X.env)] := by rfl)
    (he : starEach [a, b] X.env = (false, eval a X.env) :: starEach [b] X.env := by rfl) (he2 : starEach [b] X.env = (false, eval b X.env) :: starEach [] X.env := by rfl) : VI X W tg (.Call (.Name "range" p) [a, b] [] pos) (iRange2 f h) := by
  obtain ⟨t, pe, run⟩ := ha.run
  obtain ⟨u, pu, run2⟩ := hb.run
  refine ⟨_, pi_range2 hg hm (pa_cons (hs := he) pe (pa_cons (hs := he2) pu pa_nil)) hs hs2, fun ρ st σ g P rel k => ?_⟩
  refine run ρ st σ g _ (okI X.K ρ σ P) _ okI.goes rel k fun d1 st1 v1 g1 e1 r1 h1 k1 => ?_
  refine run2 ρ st1 σ g1 _ (okI X.K ρ σ P) _ okI.goes r1 k1 fun d2 st2 v2 g2 e2 r2 h2 k2 => ?_
  cases d1 with
  | loc _ => exact k2.elim
  | p d =>
    cases d with
    | int m =>
      cases d2 with
      | loc _ => exact k2.elim
      | p d' =>
        cases d' with
        | int n =>
          simp only at k2
          split at k2
          · rename_i hn
            exact ⟨m, n, by rw [show v1 = .int m from Has.int_inv h1, show v2 = .int n from Has.int_inv h2], ⟨hn.1.1, hn.1.2, hn.2.1, hn.2.2⟩, k2 _ g2 (Ext.refl g2) r2 trivial (walk_range m n)⟩
          · exact k2.elim
        | _ => exact k2.elim
    | _ => exact k2.elim

/-! ### for -/
open Classical in
noncomputable def forG (s : Src) (gt : FG) (body : FS) : List PyData → Slots → Store → RS
  | [], ρ, st => if s.Ok st then .ok (.nx, ρ, st) else .bad
  | d :: r, ρ, st => if s.Ok st then gt (.p d) ρ st >>= fun ρ1 => body ρ1 st >>= fun a => match a.1 with
      | .nx => forG s gt body r a.2.1 a.2.2
      | .ct => forG s gt body r a.2.1 a.2.2
      | .bk => .ok (.nx, a.2)
      | o => .ok (o, a.2)
    else .bad
noncomputable def sFor (fi : FI) (gt : FG) (body : FS) : FS := fun ρ st => liftS ρ (fi ρ st) fun a => forG a.1 gt body a.1.ds ρ a.2
theorem vs_for {tg iter : Expr} {b : List Stmt} {fi : FI} {gt : FG} {vs : List Nat} {body : FS} {pos : Pos} (hp : PassesOwn (model X.prog X.w) X.A X.env X.xe) (hc : X.calm = true) (hi : VI X W tg iter fi) (hg : VG X vs tg gt) (hb : VSs X W b body)
    (hs : ∀ x, foldedSetIterable iter X.env x = pure x := by intro _; rfl) : VS X W (.For tg iter b [] pos) (sFor fi gt body) := by
  obtain ⟨wi, pi, runI⟩ := hi.runS
  obtain ⟨tg', pg, runG⟩ := hg
  obtain ⟨tb, pb, runB⟩ := hb
  refine ⟨_, ps_for hp hc pi pg pb hs, fun ρ st σ g D rel k => ?_⟩
  refine runI ρ st σ g _ D _ rel k fun s st1 J g1 e1 r1 o1 w1 k1 => ?_
  refine ⟨fun i m σ' H => ∃ ρ' st' g', g'.H = H ∧ Ext g1 g' ∧ Rel X.K ρ' st' σ' g' ∧ i ≤ s.ds.length ∧ m = s.ds.length - i ∧ KS X.K W D g' (forG s gt body (s.ds.drop i) ρ' st'),
    ⟨s.ds.length, ρ, st1, g1, rfl, Ext.refl g1, r1, Nat.zero_le _, rfl, by rw [List.drop_zero]; exact k1⟩, ?_⟩
  rintro i m σ' H ⟨ρ', st', g', rfl, e', r', hi, rfl, k'⟩
  by_cases hlt : i < s.ds.length
  · rw [List.drop_eq_getElem_cons hlt] at k'
    unfold forG at k'
    split at k'
    · rename_i ok
      obtain ⟨go, stop, yld⟩ := w1 st' g' e'.w r'.wd ok
      refine .inr ⟨go i hlt, fun σ2 H2 => ∃ ρ2 st2 g2, g2.H = H2 ∧ Ext g1 g2 ∧ Rel X.K ρ2 st2 σ2 g2 ∧ KS X.K W D g2 (forG s gt body (s.ds.drop (i + 1)) ρ2 st2),
        fun σ2 H2 ⟨ρ2, st2, g2, q1, q2, q3, q4⟩ => ⟨s.ds.length - (i + 1), by omega, ρ2, st2, g2, q1, q2, q3, hlt, rfl, q4⟩, fun x H2 hy => ?_⟩
      obtain ⟨g2, rfl, e2, w2, hx⟩ := yld i x H2 s.ds[i] (List.getElem?_eq_getElem hlt) hy
      have r2 : Rel X.K ρ' st' σ' g2 := ⟨w2, r'.sl.ext e2⟩
      refine runG ρ' st' σ' g2 (.p s.ds[i]) x _ r2 hx ?_
      refine KR.mono (KR.bind (KS.ext e2 k')) (fun ρ1 h1 σ1 _ r1' => ?_) fun n s hn => hn
      refine runB ρ1 st' σ1 g2 _ r1' ?_
      refine KR.mono (KR.bind h1) (fun a ha => ?_) fun n s hn => hn
      obtain ⟨o, ρ3, st3⟩ := a
      cases o with
      | nx => exact fun σ3 g3 e3 r3 => ⟨ρ3, st3, g3, rfl, (e'.trans e2).trans e3, r3, KS.ext e3 ha⟩
      | ct => exact fun σ3 g3 e3 r3 => ⟨ρ3, st3, g3, rfl, (e'.trans e2).trans e3, r3, KS.ext e3 ha⟩
      | bk => exact ha
      | rt d => exact ha
      | ex n => exact ha
    · exact k'.elim
  · have ei : i = s.ds.length := by omega
    subst ei
    rw [List.drop_length] at k'
    unfold forG at k'
    split at k'
    · rename_i ok
      obtain ⟨go, stop, yld⟩ := w1 st' g' e'.w r'.wd ok
      exact .inl ⟨stop _ (Nat.le_refl _), k' σ' g' (Ext.refl g') r'⟩
    · exact k'.elim

/-! ### while -/
def whileG (c : FT) (body : FS) : Nat → Slots → Store → RS
  | 0, _, _ => .bad
  | n + 1, ρ, st => liftS ρ (c ρ st) fun a => if a.1 = true then body ρ a.2 >>= fun b => match b.1 with
      | .nx => whileG c body n b.2.1 b.2.2
      | .ct => whileG c body n b.2.1 b.2.2
      | .bk => .ok (.nx, b.2)
      | o => .ok (o, b.2)
    else .ok (.nx, ρ, a.2)
def notBad {α : Type} : R α → Bool
  | .bad => false
  | _ => true
open Classical in
noncomputable def sWhile (c : FT) (body : FS) : FS := fun ρ st => if h : ∃ n, notBad (whileG c body n ρ st) = true then whileG c body h.choose ρ st else .bad
theorem vs_while {c : Expr} {b : List Stmt} {fc : FT} {body : FS} {pos : Pos} (hp : PassesOwn (model X.prog X.w) X.A X.env X.xe) (hc : VT X W c fc) (hb : VSs X W b body) : VS X W (.While c b [] pos) (sWhile fc body) := by
  obtain ⟨tc, pc, runC⟩ := hc.runS
  obtain ⟨tb, pb, runB⟩ := hb
  refine ⟨_, ps_while hp pc pb, fun ρ st σ g D rel k => ?_⟩
  unfold sWhile at k
  split at k
  · rename_i hx
    refine ⟨fun m σ' H => ∃ ρ' st' g', g'.H = H ∧ Rel X.K ρ' st' σ' g' ∧ KS X.K W D g' (whileG fc body m ρ' st'), ⟨hx.choose, ρ, st, g, rfl, rel, k⟩, ?_⟩
    rintro m σ' H ⟨ρ', st', g', rfl, r', k'⟩
    cases m with
    | zero => exact k'.elim
    | succ m =>
      refine runC ρ' st' σ' g' _ D _ r' k' fun d st1 g1 e1 r1 k1 => ?_
      cases d with
      | true =>
        rw [if_pos rfl] at k1 ⊢
        refine ⟨fun σ2 H2 => ∃ ρ2 st2 g2, g2.H = H2 ∧ Rel X.K ρ2 st2 σ2 g2 ∧ KS X.K W D g2 (whileG fc body m ρ2 st2), fun σ2 H2 h => ⟨m, Nat.lt_succ_self m, h⟩, ?_⟩
        refine runB ρ' st1 σ' g1 _ r1 ?_
        refine KR.mono (KR.bind k1) (fun a ha => ?_) fun n s hn => hn
        obtain ⟨o, ρ3, st3⟩ := a
        cases o with
        | nx => exact fun σ3 g3 e3 r3 => ⟨ρ3, st3, g3, rfl, r3, KS.ext e3 ha⟩
        | ct => exact fun σ3 g3 e3 r3 => ⟨ρ3, st3, g3, rfl, r3, KS.ext e3 ha⟩
        | bk => exact ha
        | rt d => exact ha
        | ex n => exact ha
      | false =>
        rw [if_neg Bool.false_ne_true] at k1 ⊢
        exact k1 σ' g1 (Ext.refl g1) r1
  · exact k.elim
end
end VL

namespace VL
open PySem PySem.Spec PyProof.Rows L2

/-! ### defs -/
/-- a def's meaning -/
abbrev FM := List Vd → Store → R (Vd × Store)
/-- how a def's answer leaves it: what the def made and hands out is frozen -/
def leaveF (m : Nat) (d : Vd) (st : Store) : R (Vd × Store) := match d with
  | .p x => .ok (.p x, st.take m)
  | .loc k => if k < m then .ok (.loc k, st.take m) else frz st (.loc k) >>= fun a => .ok (.p a.1, a.2.take m)
/-- .. or becomes the caller's -/
def leaveN (m : Nat) (d : Vd) (st : Store) : R (Vd × Store) := match d with
  | .p x => .ok (.p x, st.take m)
  | .loc k => if k < m then .ok (.loc k, st.take m) else match st[k]? with
    | some ob => .ok (.loc m, st.take m ++ [ob])
    | none => .bad
def outM (lv : Nat → Vd → Store → R (Vd × Store)) (m : Nat) (a : Out × Slots × Store) : R (Vd × Store) := match a.1 with
  | .rt d => lv m d a.2.2
  | .nx => lv m (.p .none) a.2.2
  | .ex n => .exc n (a.2.2.take m)
  | _ => .bad
def R.only {α β : Type} : R α → (α → R β) → R β
  | .ok a, f => f a
  | _, _ => .bad
@[simp] theorem R.only_ok {α β : Type} (a : α) (f : α → R β) : (R.ok a).only f = f a := rfl
@[simp] theorem R.only_exc {α β : Type} (n : Str) (st : Store) (f : α → R β) : (R.exc n st).only f = .bad := rfl
@[simp] theorem R.only_bad {α β : Type} (f : α → R β) : (R.bad).only f = .bad := rfl
def entry (N n : Nat) (lv : Nat → Vd → Store → R (Vd × Store)) (f : FS) : FM := fun ds st =>
  if ds.length = n then (f (ds.map some ++ List.replicate (N - n) none) st).only (outM lv st.length) else .bad
abbrev Gh.cut (g1 : Gh) (A : List Addr) : Gh := ⟨g1.F, A, g1.H⟩
section
variable {K : PySem.W.Frag}
theorem cut_ext {g g1 : Gh} (e : Ext g g1) : Ext g (g1.cut g.A) := ⟨e.frz, ⟨[], by simp, fun a z => by simp at z⟩, e.keep, e.there, e.raw, e.tbl⟩
theorem cut_wd {g g1 : Gh} {st st1 : Store} (e : Ext g g1) (w : Wd K st g) (w1 : Wd K st1 g1) : Wd K (st1.take st.length) (g1.cut g.A) := by
  obtain ⟨B, hB, _⟩ := e.new
  have hl : g1.A.length = g.A.length + B.length := by rw [hB, List.length_append]
  have nd : (g.A ++ B).Nodup := hB ▸ w1.nd
  refine ⟨w1.sub, (List.nodup_append.mp nd).1, ?_, fun a ha => w1.there a (by rw [hB]; exact List.mem_append_left _ ha), fun k a ob hk ho => ?_, fun P hP => ?_⟩
  · show g.A.length = _
    rw [List.length_take, ← w.len, ← w1.len, hl]; omega
  · rw [List.getElem?_take] at ho
    split at ho
    · rename_i hkl
      refine w1.own k a ob ?_ ho
      rw [hB, List.getElem?_append_left (by rw [w.len]; exact hkl)]; exact hk
    · cases ho
  · obtain ⟨h1, h3, h4⟩ := w1.tabs P hP
    exact ⟨h1, h3, fun hm => h4 (by rw [hB]; exact List.mem_append_left _ hm)⟩
def okM (K : PySem.W.Frag) (Q : VK) (g : Gh) (a : Vd × Store) : Prop := ∀ v g', Ext g g' → Wd K a.2 g' → HasV K g' a.1 v → Q v g'.H
def exM (K : PySem.W.Frag) (W : Str → Hp → Prop) (g : Gh) (n : Str) (st : Store) : Prop := ∀ g', Ext g g' → Wd K st g' → W n g'.H
theorem okM.goes {Q : VK} : Goes (okM K Q) := fun g g' b e h v g2 e2 => h v g2 (e.trans e2)
def Leaves (lv : Nat → Vd → Store → R (Vd × Store)) : Prop := ∀ {K : PySem.W.Frag} {W : Str → Hp → Prop} {g g1 : Gh} {st st1 : Store} {ρ : Slots} {σ : L2.St} {d : Vd} {v : V} {Q : VK}, Ext g g1 → Wd K st g → Rel K ρ st1 σ g1 → HasV K g1 d v → KR (exM K W g) (okM K Q g) (lv st.length d st1) → Q v g1.H
theorem leave_in {g g1 : Gh} {st st1 : Store} {ρ : Slots} {σ : L2.St} {k : Nat} {v : V} {Q : VK} (e : Ext g g1) (w : Wd K st g) (r : Rel K ρ st1 σ g1) (hv : HasV K g1 (.loc k) v) (hk : k < st.length) (h : okM K Q g (.loc k, st1.take st.length)) : Q v g1.H := by
  obtain ⟨a, ha, rfl⟩ := hv
  obtain ⟨B, hB, _⟩ := e.new
  refine h (.ref a) (g1.cut g.A) (cut_ext e) (cut_wd e w r.wd) ⟨a, ?_, rfl⟩
  show g.A[k]? = some a
  rw [hB, List.getElem?_append_left (by rw [w.len]; exact hk)] at ha; exact ha
theorem leaves_F : Leaves leaveF := by
  intro K W g g1 st st1 ρ σ d v Q e w r hv h
  cases d with
  | p x => exact h v (g1.cut g.A) (cut_ext e) (cut_wd e w r.wd) hv
  | loc k =>
    unfold leaveF at h
    simp only at h
    split at h
    · rename_i hk
      exact leave_in e w r hv hk h
    · obtain ⟨⟨x, st2⟩, px, k2⟩ := frz_bind h
      obtain ⟨g2, eH, e2, r2, h2⟩ := frz_ok r hv px
      rw [← eH]
      exact k2 v (g2.cut g.A) (cut_ext (e.trans e2)) (cut_wd (e.trans e2) w r2.wd) h2
theorem leaves_N : Leaves leaveN := by
  intro K W g g1 st st1 ρ σ d v Q e w r hv h
  cases d with
  | p x => exact h v (g1.cut g.A) (cut_ext e) (cut_wd e w r.wd) hv
  | loc k =>
    unfold leaveN at h
    simp only at h
    split at h
    · rename_i hk
      exact leave_in e w r hv hk h
    · rename_i hk
      obtain ⟨a, ha, rfl⟩ := hv
      obtain ⟨B, hB, nB⟩ := e.new
      cases ho : st1[k]? with
      | none => rw [ho] at h; exact h.elim
      | some ob =>
        rw [ho] at h
        have hkA : ¬ k < g.A.length := by rw [w.len]; exact hk
        have aB : a ∈ B := by
          rw [hB, List.getElem?_append_right (by omega)] at ha
          exact List.mem_of_getElem? ha
        have wc := cut_wd e w r.wd
        have ec := cut_ext e
        have an : a ∉ g.A := fun hm => by
          obtain ⟨j, hj⟩ := List.getElem?_of_mem hm
          have : g1.A[j]? = some a := by rw [hB, List.getElem?_append_left (List.getElem?_eq_some_iff.mp hj).1]; exact hj
          have := nd_ix r.wd.nd this ha
          have := (List.getElem?_eq_some_iff.mp hj).1
          omega
        have hlen : (st1.take st.length).length = g.A.length := wc.len.symm
        refine h (.ref a) ⟨g1.F, g.A ++ [a], g1.H⟩ ⟨e.frz, ⟨[a], rfl, fun b hb => by rw [List.mem_singleton.mp hb]; exact nB a aB⟩, e.keep, e.there, e.raw, e.tbl⟩ ⟨wc.sub, ?_, ?_, ?_, fun j b o hj hb => ?_, fun P hP => ?_⟩ ⟨a, ?_, rfl⟩
        · exact List.nodup_append.mpr ⟨wc.nd, by simp, fun x hx y hy => by rw [List.mem_singleton.mp hy]; exact fun z => an (z ▸ hx)⟩
        · show (g.A ++ [a]).length = _
          rw [List.length_append, List.length_append, hlen]; rfl
        · intro b hb
          rcases List.mem_append.mp hb with hb | hb
          · exact wc.there b hb
          · rw [List.mem_singleton.mp hb]; exact r.wd.there a (List.mem_of_getElem? ha)
        · by_cases hjl : j < g.A.length
          · have hj : (g.A ++ [a])[j]? = some b := hj
            rw [List.getElem?_append_left hjl] at hj
            rw [List.getElem?_append_left (by rw [hlen]; exact hjl)] at hb
            exact wc.own j b o hj hb
          · have hj : (g.A ++ [a])[j]? = some b := hj
            rw [List.getElem?_append_right (by omega)] at hj
            rw [List.getElem?_append_right (by omega), hlen] at hb
            have h0 : j - g.A.length = 0 := by
              have := (List.getElem?_eq_some_iff.mp hj).1
              simp at this; omega
            rw [h0] at hj hb
            cases hj; cases hb
            exact r.wd.own k a ob ha ho
        · obtain ⟨h1, h3, h4⟩ := wc.tabs P hP
          refine ⟨h1, h3, fun hm => ?_⟩
          rcases List.mem_append.mp hm with hm | hm
          · exact h4 hm
          · exact (r.wd.tabs P hP).2.2 (by rw [List.mem_singleton.mp hm]; exact List.mem_of_getElem? ha)
        · show (g.A ++ [a])[st.length]? = some a
          rw [List.getElem?_append_right (by rw [w.len]; exact Nat.le_refl _), w.len, Nat.sub_self]; rfl
theorem sl_start {g : Gh} {N : List Str} {ds : List Vd} {vs : List V} (h : HasVL K g ds vs) : Sl K g (ds.map some ++ List.replicate (N.length - ds.length) none) (L2.start N vs) := by
  unfold L2.start
  refine ⟨by simp [h.1], fun i d hi => ?_⟩
  by_cases hl : i < ds.length
  · rw [List.getElem?_append_left (by simpa using hl), List.getElem?_map] at hi
    have hl2 : i < vs.length := by rw [h.1]; exact hl
    rw [List.getElem?_eq_getElem hl] at hi
    cases hi
    exact ⟨vs[i], by rw [List.getElem?_append_left (by simpa using hl2), List.getElem?_map, List.getElem?_eq_getElem hl2]; rfl, h.2 i _ _ (List.getElem?_eq_getElem hl) (List.getElem?_eq_getElem hl2)⟩
  · rw [List.getElem?_append_right (by simpa using hl)] at hi
    rw [List.getElem?_replicate] at hi
    split at hi <;> cases hi
/-- a def's promise, by its meaning; W: what an exception is wished to be -/
def spV (K : PySem.W.Frag) (W : XK → Str → Hp → Prop) (n : Nat) (m : FM) : Sp := fun vs H Q E => vs.length = n ∧ ∃ ds st g, g.H = H ∧ Wd K st g ∧ HasVL K g ds vs ∧ KR (exM K (W E) g) (okM K Q g) (m ds st)
abbrev noX : XK → Str → Hp → Prop := fun _ _ _ => False
theorem body_run {X : Cx} {W : Str → Hp → Prop} {body : List Stmt} {f : FS} {lv : Nat → Vd → Store → R (Vd × Store)} {n : Nat} {ds : List Vd} {vs : List V} {st : Store} {g : Gh} {Q : VK} (L : Leaves lv) (h : VSs X (fun n _ H => W n H) body f) (w : Wd X.K st g) (hv : HasVL X.K g ds vs)
    (k : KR (exM X.K W g) (okM X.K Q g) (entry X.N.length n lv f ds st)) : ∃ t, PSs X body t ∧ t { nx := fun _ H' => Q .non H', rt := Q } (L2.start X.N vs) g.H := by
  obtain ⟨t, pt, run⟩ := h
  refine ⟨t, pt, ?_⟩
  unfold entry at k
  split at k
  · rename_i hn
    rw [← hn] at k
    refine run _ st _ g _ ⟨w, sl_start hv⟩ ?_
    cases e0 : f (ds.map some ++ List.replicate (X.N.length - ds.length) none) st with
    | bad => rw [e0] at k; exact k.elim
    | exc n s =>
      rw [e0] at k; exact k.elim
    | ok a =>
      rw [e0] at k
      have k : KR (exM X.K W g) (okM X.K Q g) (outM lv st.length a) := k
      obtain ⟨o, ρ', st'⟩ := a
      cases o with
      | nx => exact fun σ' g' e r => L (W := W) e w r (show HasV X.K g' (.p .none) .non from .non) k
      | rt d => exact fun v σ' g' e r hd => L (W := W) e w r hd k
      | bk => exact k.elim
      | ct => exact k.elim
      | ex n => exact fun σ' g' e r => k (g'.cut g.A) (cut_ext e) (cut_wd e w r.wd)
  · exact k.elim
/-- a def that lets no exception out -/
theorem fn_ok {P : Program} {w : World} {mg : Str → Option Value} {base : Heap} {x qual : Str} {sd : Stmt} {fa : Addr} {fd : FuncData} {N ps : List Str} {k : Nat} {f : FS} {lv : Nat → Vd → Store → R (Vd × Store)} (F : Fun K x qual sd fa fd) (S : FnScope N ps (defScope sd)) (L : Leaves lv)
    (h : ∀ (cdv : Value) (A : Around) (outer : List Env) (s : Shared) (H : Hp) (E : XK), fd.code = cdv → Room k (A.deeper (envOfC qual (defScope sd) s.heap.objs.size fa cdv)) → VSs (cxOf CX0 P w K mg base N qual (defScope sd) fa cdv A outer s H E).nox noW (defBody sd) f) :
    FnOk P w K mg base CX0 (k + 1) fa fd ps (spV K noX ps.length (entry N.length ps.length lv f)) := by
  obtain ⟨oc, od, kV, doc, pm, an, cdv, ct, osl, rfl, lk, hcd⟩ := F.ex
  refine fn_of lk hcd S (fun vs H Q E hh => hh.1) fun A outer s H vs Q E hr hh => ?_
  obtain ⟨hl, ds, st, g, rfl, w, hv, kk⟩ := hh
  obtain ⟨t, h, q⟩ := body_run (X := (cxOf CX0 P _ K mg base N qual (defScope sd) fa cdv A outer s g.H E).nox) (W := fun _ _ => False) L (h cdv A outer s g.H E rfl hr) w hv kk
  exact ⟨t, h.nox, q⟩
end
section
variable {X : Cx} {W : Wish}
/-- a call of a def that lets no exception out -/
def vDef (n : Nat) (m : FM) (fa : FA) : FE := fun ρ st => fa ρ st >>= fun a => if a.1.length = n then (m a.1 a.2).only fun b => .ok b else .bad
theorem ve_def {k n : Nat} {f : Addr} {fd : FuncData} {ps : List Str} {m : FM} {fa : FA} {x : Str} {p pos : Pos} {e : Expr} {es : List Expr} (F : FnOk X.prog X.w X.K X.mg X.base CX0 k f fd ps (spV X.K noX n m)) (hr : Room k X.A) (hg : Gl X x) (hm : X.mg x = some (.ref f)) (hk : PySem.W.keepIn X.K (.ref f) = true) (hb : Binds X.K fd ps [])
    (ha : VA X W (e :: es) fa) (hdb : (x == ("__debug__" : Str)) = false := by decide) (he : starEach (e :: es) X.env = (false, eval e X.env) :: starEach es X.env := by rfl) (hpl : (backTo pos (starEach es X.env)).any (·.1) = false := by rfl) :
    VE X W (.Call (.Name x p) (e :: es) [] pos) (vDef n m fa) := by
  obtain ⟨t, pa, run⟩ := ha.run
  refine ⟨_, pe_call F hr hg hm hk hb .nil pass0 pa hdb he hpl, fun ρ st σ g Q rel k => ?_⟩
  refine run ρ st σ g _ (okE X.K ρ σ Q) _ okE.goes rel k fun ds st1 vs g1 e1 r1 h1 k1 => ?_
  rw [List.append_nil]
  simp only at k1
  split at k1
  · rename_i hn
    cases em : m ds st1 with
    | bad => rw [em] at k1; exact k1.elim
    | exc n s => rw [em] at k1; exact k1.elim
    | ok a =>
      rw [em] at k1
      refine ⟨h1.1.trans hn, ds, st1, g1, rfl, r1.wd, h1, ?_⟩
      rw [em]
      exact fun v g' e' w' hv => k1 v g' e' ⟨w', r1.sl.ext e'⟩ hv
  · exact k1.elim
end
end VL

namespace VL
open PySem PySem.Spec PyProof.Rows L2

/-! ### readings that don't hang on the context -/
def tOf (K : PySem.W.Frag) (W : Wish) (f : FE) : TE := fun σ H Q => ∃ ρ st g, g.H = H ∧ Rel K ρ st σ g ∧ KE K W ρ σ g Q (f ρ st)
def gOf (K : PySem.W.Frag) (vs : List Nat) (f : FG) : TG := fun v σ H Q => ∃ ρ st g d, g.H = H ∧ Rel K ρ st σ g ∧ HasV K g d v ∧ KR no (fun ρ' => ∀ σ', But vs σ σ' → Rel K ρ' st σ' g → Q σ' g.H) (f d ρ st)
def ttOf (K : PySem.W.Frag) (W : Wish) (f : FT) : TT := fun σ H Q => ∃ ρ st g, g.H = H ∧ Rel K ρ st σ g ∧ KR (WN K W ρ σ g) (okT K ρ σ Q g) (f ρ st)
def wiOf (K : PySem.W.Frag) (W : Wish) (f : FI) : TI := fun σ H P => ∃ ρ st g, g.H = H ∧ Rel K ρ st σ g ∧ KR (WN K W ρ σ g) (okI K ρ σ P g) (f ρ st)
section
variable {X : Cx} {W : Wish}
theorem VE.pe {e : Expr} {f : FE} (h : VE X W e f) : PE X e (tOf X.K W f) := by
  obtain ⟨t, pt, run⟩ := h
  exact ⟨fun pins s σ H Q I ⟨ρ, st, g, e, r, k⟩ => pt.run pins s σ H Q I (e ▸ run ρ st σ g Q r k)⟩
theorem VG.pg {vs : List Nat} {e : Expr} {f : FG} (h : VG X vs e f) : PG X e (gOf X.K vs f) := by
  obtain ⟨t, pt, run⟩ := h
  exact ⟨fun pins s σ H v u Q I rv ⟨ρ, st, g, d, e, r, hv, k⟩ => pt.run pins s σ H v u Q I rv (e ▸ run ρ st σ g d v Q r hv k)⟩
theorem VT.pt {e : Expr} {f : FT} (h : VT X W e f) : PT X e (ttOf X.K W f) := by
  obtain ⟨t, pt, run⟩ := h
  exact ⟨fun pins s σ H Q I ⟨ρ, st, g, e, r, k⟩ => pt.run pins s σ H Q I (e ▸ run ρ st σ g Q r k)⟩
theorem VI.pi {tg e : Expr} {f : FI} (h : VI X W tg e f) : PI X tg e (wiOf X.K W f) := by
  obtain ⟨t, pt, run⟩ := h
  exact ⟨fun pins s σ H R I ⟨ρ, st, g, e, r, k⟩ => pt.run pins s σ H R I (e ▸ run ρ st σ g R r k)⟩
/-- the tests of a clause -/
def VTs (X : Cx) (W : Wish) (cs : List Expr) (f : FT) : Prop := PTs X cs (ttOf X.K W f)
def fYes : FT := fun _ st => .ok (true, st)
theorem vts_nil : VTs X W [] fYes := ⟨fun pins s σ H Q I ⟨ρ, st, g, e, r, k⟩ => pts_nil.run pins s σ H Q I (by
  have q : Q true g.H := k g (Ext.refl g) r
  rw [e] at q; exact q)⟩
theorem vts_one {c : Expr} {f : FT} (h : VT X W c f) : VTs X W [c] f := pts_one h.pt

/-! ### list comprehensions -/
def wipeV (ρ : Slots) : List Nat → Slots
  | [] => ρ
  | v :: vs => (wipeV ρ vs).set v none
theorem Sl.setN {K : PySem.W.Frag} {g : Gh} {ρ : Slots} {σ : L2.St} (h : Sl K g ρ σ) (i : Nat) : Sl K g (ρ.set i none) (σ.set i none) := by
  refine ⟨by simp [h.1], fun j e hj => ?_⟩
  rw [List.getElem?_set] at hj
  split at hj
  · split at hj <;> cases hj
  · rename_i hij
    obtain ⟨w, h1, h2⟩ := h.2 j e hj
    exact ⟨w, by rw [List.getElem?_set_ne hij]; exact h1, h2⟩
theorem Sl.wipe {K : PySem.W.Frag} {g : Gh} {ρ : Slots} {σ : L2.St} (h : Sl K g ρ σ) : ∀ vs : List Nat, Sl K g (wipeV ρ vs) (L2.wipe σ vs)
  | [] => h
  | v :: vs => by
    unfold wipeV L2.wipe
    exact (h.wipe vs).setN v
theorem wipe_ext {a b : L2.St} : ∀ {vs : List Nat}, a.length = b.length → (∀ j, j ∉ vs → a[j]? = b[j]?) → L2.wipe a vs = L2.wipe b vs
  | vs, hl, h => by
    apply List.ext_getElem?
    intro j
    by_cases hj : j ∈ vs
    · have key : ∀ (c : L2.St) (ws : List Nat), j ∈ ws → j < c.length → (L2.wipe c ws)[j]? = some none := by
        intro c ws
        induction ws with
        | nil => intro hm _; cases hm
        | cons w ws ih =>
          intro hm hlt
          unfold L2.wipe
          by_cases e : w = j
          · subst e
            rw [List.getElem?_set_self (by rw [wipe_length]; exact hlt)]
          · rw [List.getElem?_set_ne e]
            rcases List.mem_cons.mp hm with q | q
            · exact absurd q.symm e
            · exact ih q hlt
      by_cases hlt : j < a.length
      · rw [key a vs hj hlt, key b vs hj (hl ▸ hlt)]
      · rw [List.getElem?_eq_none (by rw [wipe_length]; omega), List.getElem?_eq_none (by rw [wipe_length, ← hl]; omega)]
    · rw [wipe_out hj, wipe_out hj]; exact h j hj
theorem wipe_in {a : L2.St} {vs : List Nat} {j : Nat} (hj : j ∉ vs) : (L2.wipe a vs)[j]? = a[j]? := wipe_out hj
theorem wipe_but {σ σ2 : L2.St} {vs ws : List Nat} (h : But ws (L2.wipe σ vs) σ2) (hs : ∀ j ∈ ws, j ∈ vs) : L2.wipe σ2 vs = L2.wipe σ vs :=
  wipe_ext (by rw [h.1, wipe_length]) fun j hj => (h.2 j fun z => hj (hs j z)).trans (wipe_in hj)
open Classical in
noncomputable def lcG (s : Src) (gt : FG) (tt : FT) (fe : FE) (ρ : Slots) : List PyData → Store → R (List PyData × Store)
  | [], st => if s.Ok st then .ok ([], st) else .bad
  | d :: r, st => if s.Ok st then gt (.p d) ρ st >>= fun ρ1 => tt ρ1 st >>= fun b => if b.1 = true then fe ρ1 b.2 >>= fun a => frz a.2 a.1 >>= fun x => lcG s gt tt fe ρ r x.2 >>= fun y => .ok (x.1 :: y.1, y.2)
    else lcG s gt tt fe ρ r b.2 else .bad
noncomputable def nLc (fi : FI) (gt : FG) (tt : FT) (fe : FE) (vs : List Nat) : FN := fun ρ st => fi ρ st >>= fun a => (lcG a.1 gt tt fe (wipeV ρ vs) a.1.ds a.2).only fun b => if b.1.length ≤ LIM then .ok (.lst b.1, b.2) else .bad
theorem R.only_of {α β : Type} {ne : Str → Store → Prop} {ok : β → Prop} {r : R α} {f : α → R β} (h : KR ne ok (r.only f)) : KR no (fun a => KR ne ok (f a)) r := by
  cases r with
  | ok a => exact h
  | exc n s => exact h.elim
  | bad => exact h.elim
/-- the world behind a new list's growth -/
theorem ext_over {g1 g : Gh} (e : Ext g1 g) {D : Addr} (hD : g1.H D = none) (u : HO) : Ext g1 ⟨g.F, g.A, upd g.H D u⟩ :=
  ⟨e.frz, e.new, fun b o hb ht hn => by
    show upd g.H D u b = some o
    rw [upd_ne (ne_of_none hb hD)]; exact e.keep b o hb ht hn, fun b hb => by
    have hb : upd g.H D u b = none := hb
    by_cases q : b = D
    · rw [q]; exact hD
    · rw [upd_ne q] at hb; exact e.there b hb, e.raw, fun b ps hb hn => by
    obtain ⟨qs, q⟩ := e.tbl b ps hb hn
    exact ⟨qs, by show upd g.H D u b = _; rw [upd_ne (ne_of_none hb hD)]; exact q⟩⟩
theorem wd_over {K : PySem.W.Frag} {st : Store} {g : Gh} (w : Wd K st g) {D : Addr} (hF : g.F D = none) (hA : D ∉ g.A) (hT : ∀ ps, g.H D ≠ some (.tbl ps)) (u : HO) : Wd K st ⟨g.F, g.A, upd g.H D u⟩ := by
  refine ⟨fun b x q => ?_, w.nd, w.len, fun a ha => ?_, fun k a ob h1 h2 => ?_, fun P hP => ?_⟩
  · show upd g.H D u b = some x
    have q : g.F b = some x := q
    rw [upd_ne (fun z => by rw [z, hF] at q; cases q)]; exact w.sub b x q
  · obtain ⟨x, hx⟩ := w.there a ha
    refine ⟨x, ?_⟩
    show upd g.H D u a = some x
    rw [upd_ne (fun (z : a = D) => hA (by rw [← z]; exact ha))]; exact hx
  · refine ObAt.ext (g := g) (g' := ⟨g.F, g.A, upd g.H D u⟩) (Same.refl _) id ?_ (w.own k a ob h1 h2)
    show upd g.H D u a = g.H a
    rw [upd_ne (fun (z : a = D) => hA (by rw [← z]; exact List.mem_of_getElem? h1))]
  · have hPD : P.2 ≠ D := fun z => by
      obtain ⟨⟨ps, h1, _⟩, _⟩ := w.tabs P hP
      rw [z] at h1
      exact hT ps h1
    exact (w.tabs P hP).mono (show upd g.H D u P.2 = g.H P.2 by rw [upd_ne hPD]) rfl rfl
/-- THE READING of a list comprehension -/
theorem lc_read {K : PySem.W.Frag} {fi : FI} {gt : FG} {tt : FT} {fe : FE} {vs ws : List Nat} {wi : TI} (hws : ∀ j ∈ ws, j ∈ vs)
    (runI : ∀ ρ st σ g P, Rel K ρ st σ g → KR (WN K W ρ σ g) (okI K ρ σ P g) (fi ρ st) → wi σ g.H P) : RN K W (tLc wi (gOf K ws gt) (ttOf K noW tt) (tOf K noW fe) vs) (nLc fi gt tt fe vs) := by
  intro ρ st σ g Q rel k
  refine runI ρ st σ g _ rel (KR.mono (KR.bind k) (fun a ha J g1 e1 r1 o1 w1 D hD => ?_) fun n s hn => hn)
  obtain ⟨s, st1⟩ := a
  have ha : KR (WN K W ρ σ g) (okN K ρ σ Q g) ((lcG s gt tt fe (wipeV ρ vs) s.ds st1).only fun b => if b.1.length ≤ LIM then .ok (.lst b.1, b.2) else .bad) := ha
  have hF1 : g1.F D = none := r1.wd.sub.free hD
  have hA1 : D ∉ g1.A := fun hm => by
    obtain ⟨x, hx⟩ := r1.wd.there D hm
    rw [hD] at hx; cases hx
  refine ⟨fun i m H => ∃ st' g' acc xs, g'.H = H ∧ Ext g1 g' ∧ Wd K st' g' ∧ i ≤ s.ds.length ∧ m = s.ds.length - i ∧ g'.H D = some (.lst xs) ∧ g'.F D = none ∧ D ∉ g'.A ∧ HasL K g'.F acc xs ∧
      KR no (fun b => acc.length + b.1.length ≤ LIM ∧ okN K ρ σ Q g (.lst (acc ++ b.1), b.2)) (lcG s gt tt fe (wipeV ρ vs) (s.ds.drop i) st'),
    ⟨s.ds.length, st1, ⟨g1.F, g1.A, upd g1.H D (.lst [])⟩, [], [], rfl, ext_over (Ext.refl g1) hD _, wd_over r1.wd hF1 hA1 (fun ps z => by rw [hD] at z; cases z) _, Nat.zero_le _, rfl, upd_same, hF1, hA1, .nil, ?_⟩, ?_⟩
  · rw [List.drop_zero]
    refine KR.mono (R.only_of ha) (fun b hb => ?_) fun _ _ z => z
    split at hb
    · rename_i hl
      exact ⟨by simpa using hl, hb⟩
    · exact hb.elim
  rintro i m H ⟨st', g', acc, xs, rfl, e', w', hi, rfl, hDH, hDF, hDA, hacc, k'⟩
  have sl' : Sl K g' ρ σ := r1.sl.ext e'
  by_cases hlt : i < s.ds.length
  · rw [List.drop_eq_getElem_cons hlt] at k'
    unfold lcG at k'
    split at k'
    · rename_i ok
      obtain ⟨go, stop, yld⟩ := w1 st' g' e'.w w' ok
      refine .inr ⟨go i hlt, fun H2 => ∃ st2 g2 acc2 xs2, g2.H = H2 ∧ Ext g1 g2 ∧ Wd K st2 g2 ∧ g2.H D = some (.lst xs2) ∧ g2.F D = none ∧ D ∉ g2.A ∧ HasL K g2.F acc2 xs2 ∧
          KR no (fun b => acc2.length + b.1.length ≤ LIM ∧ okN K ρ σ Q g (.lst (acc2 ++ b.1), b.2)) (lcG s gt tt fe (wipeV ρ vs) (s.ds.drop (i + 1)) st2),
        fun H2 ⟨st2, g2, acc2, xs2, q1, q2, q3, q4, q5, q6, q7, q8⟩ => ⟨s.ds.length - (i + 1), by omega, st2, g2, acc2, xs2, q1, q2, q3, hlt, rfl, q4, q5, q6, q7, q8⟩, fun x H2 hy => ?_⟩
      obtain ⟨g2, rfl, e2, w2, hx⟩ := yld i x H2 s.ds[i] (List.getElem?_eq_getElem hlt) hy
      refine ⟨wipeV ρ vs, st', g2, .p s.ds[i], rfl, ⟨w2, (sl'.ext e2).wipe vs⟩, hx, ?_⟩
      refine KR.mono (KR.bind k') (fun ρ1 h1 σ1 b1 r1' => ⟨wipe_but b1 hws, ρ1, st', g2, rfl, r1', ?_⟩) fun _ _ z => z
      refine KR.mono (KR.bind h1) (fun b hb g3 e3 r3 => ?_) fun _ _ z => z.elim
      obtain ⟨b, st3⟩ := b
      have E3 : Ext g1 g3 := (e'.trans e2).trans e3
      have E23 : Ext g' g3 := e2.trans e3
      cases b with
      | true =>
        rw [if_pos rfl]
        simp only [if_true] at hb
        refine ⟨ρ1, st3, g3, rfl, r3, KR.mono (KR.bind hb) (fun a ha v g4 e4 r4 hv => ?_) fun _ _ z => z.elim⟩
        obtain ⟨⟨d, st5⟩, px, k5⟩ := frz_bind ha
        obtain ⟨g5, eH, e5, r5, h5⟩ := frz_ok r4 hv px
        have E35 : Ext g' g5 := (E23.trans e4).trans e5
        have hD5 : g5.H D = some (.lst xs) := E35.keep D _ hDH (fun _ z => by cases z) hDA
        have hF5 : g5.F D = none := E35.raw D _ ⟨hDH, fun _ z => by cases z⟩ hDA hDF
        have hA5 : D ∉ g5.A := E35.nin hDH hDA
        have k6 := KR.bind k5
        have len : acc.length + 1 ≤ LIM := by
          cases eq : lcG s gt tt fe (wipeV ρ vs) (List.drop (i + 1) s.ds) st5 with
          | bad => simp only [eq] at k6; exact k6.elim
          | exc n z => simp only [eq] at k6; exact k6.elim
          | ok b =>
            simp only [eq] at k6
            have := k6.1
            simp only [List.length_cons] at this
            omega
        refine ⟨xs, by rw [← eH]; exact hD5, ?_, st5, ⟨g5.F, g5.A, upd g5.H D (.lst (xs ++ [v]))⟩, acc ++ [d], xs ++ [v], by rw [eH], ext_over (e'.trans E35) hD _, wd_over r5.wd hF5 hA5 (fun ps z => by rw [hD5] at z; cases z) _, upd_same, hF5, hA5, (hacc.mono E35.frz).append (.singleton h5), ?_⟩
        · rw [hacc.1, lim_eq]; omega
        · refine KR.mono k6 (fun b hb => ?_) fun _ _ z => z
          have hb : acc.length + (d :: b.1).length ≤ LIM ∧ okN K ρ σ Q g (.lst (acc ++ d :: b.1), b.2) := hb
          rw [List.append_assoc, List.length_append]
          exact ⟨by have := hb.1; simp only [List.length_cons, List.length_nil] at this ⊢; omega, hb.2⟩
      | false =>
        rw [if_neg Bool.false_ne_true]
        simp only [Bool.false_eq_true, if_false] at hb
        exact ⟨st3, g3, acc, xs, rfl, E3, r3.wd, E23.keep D _ hDH (fun _ z => by cases z) hDA, E23.raw D _ ⟨hDH, fun _ z => by cases z⟩ hDA hDF, E23.nin hDH hDA, hacc.mono E23.frz, hb⟩
    · exact k'.elim
  · have ei : i = s.ds.length := by omega
    subst ei
    rw [List.drop_length] at k'
    unfold lcG at k'
    split at k'
    · rename_i ok
      obtain ⟨go, stop, yld⟩ := w1 st' g' e'.w w' ok
      refine .inl ⟨stop _ (Nat.le_refl _), ?_⟩
      have k'' := k'.2
      rw [List.append_nil] at k''
      exact k'' D (.lst xs) g' (e1.trans e') ⟨w', sl'⟩ (e1.there D hD) hDH hDF hDA ⟨xs, rfl, hacc⟩
    · exact k'.elim
theorem vn_lc {elt tg iter : Expr} {ifs : List Expr} {scope : Scope} {own : List (Str × Nat)} {pos : Pos} {fi : FI} {gt : FG} {tt : FT} {fe : FE} {ws vs : List Nat} (hc : X.calm = true) (hN : X.N.Nodup) (hi : VI X W tg iter fi) (ok : BlkOk X.N X.env.scope scope own)
    (hg : ∀ (s : Shared) (H : Hp) (C : Addr) (cl : List (Str × Addr)) (fp : List Addr), VG (X.blk s H scope (compEnvC scope cl C X.env) fp) ws tg gt) (ht : ∀ (s : Shared) (H : Hp) (C : Addr) (cl : List (Str × Addr)) (fp : List Addr), VTs (X.blk s H scope (compEnvC scope cl C X.env) fp) noW ifs tt)
    (he : ∀ (s : Shared) (H : Hp) (C : Addr) (cl : List (Str × Addr)) (fp : List Addr), VE (X.blk s H scope (compEnvC scope cl C X.env) fp) noW elt fe) (hws : ∀ j ∈ ws, j ∈ vs := by decide) (hvs : own.map (·.2) = vs := by rfl) (hs : ∀ x, foldedSetIterable iter X.env x = pure x := by intro _; rfl) :
    VN X W (.ListComp elt [⟨tg, iter, ifs, 0⟩] scope pos) (nLc fi gt tt fe vs) := by
  subst hvs
  obtain ⟨wi, pi, runI⟩ := hi
  exact ⟨_, pe_lc hc hN pi ok (fun s H C cl fp => (hg s H C cl fp).pg) (tt := ttOf X.K noW tt) (fun s H C cl fp => ht s H C cl fp) (fun s H C cl fp => (he s H C cl fp).pe) hs, lc_read hws runI⟩
/-- name = [..] on one line -/
theorem vs_setLc {i : Nat} {y : Str} {py : Pos} {elt tg iter : Expr} {ifs : List Expr} {scope : Scope} {own : List (Str × Nat)} {pos spos : Pos} {fi : FI} {gt : FG} {tt : FT} {fe : FE} {ws vs : List Nat} {f : FN → FE} (hf : ∀ {t : TE} {h : FN}, RN X.K W t h → RE X.K W t (f h)) (hc : X.calm = true) (hN : X.N.Nodup) (hy : X.N[i]? = some y) (hyl : X.env.scope.names.lookup y = some .local)
    (hi : VI X W tg iter fi) (ok : BlkOk X.N X.env.scope scope own)
    (hg : ∀ (s : Shared) (H : Hp) (C : Addr) (cl : List (Str × Addr)) (fp : List Addr), VG (X.blk s H scope (compEnvC scope cl C X.env) fp) ws tg gt) (ht : ∀ (s : Shared) (H : Hp) (C : Addr) (cl : List (Str × Addr)) (fp : List Addr), VTs (X.blk s H scope (compEnvC scope cl C X.env) fp) noW ifs tt)
    (he : ∀ (s : Shared) (H : Hp) (C : Addr) (cl : List (Str × Addr)) (fp : List Addr), VE (X.blk s H scope (compEnvC scope cl C X.env) fp) noW elt fe) (hws : ∀ j ∈ ws, j ∈ vs := by decide) (hvs : own.map (·.2) = vs := by rfl) (hs : ∀ x, foldedSetIterable iter X.env x = pure x := by intro _; rfl)
    (hk : X.env.scope.kind = .function := by rfl) (hl : (py.line == pos.line) = true := by rfl) (ha : (scope.names.any fun (n, k) => n == y && (k == .local || k == .cell)) = false := by decide) :
    VS X W (.Assign [.Name y py] (.ListComp elt [⟨tg, iter, ifs, 0⟩] scope pos) spos) (sSet i (f (nLc fi gt tt fe vs))) := by
  subst hvs
  obtain ⟨wi, pi, runI⟩ := hi
  exact ⟨_, ps_setLc hc hN hy hyl (sw_true hk hyl hl ha) pi ok (fun s H C cl fp => (hg s H C cl fp).pg) (tt := ttOf X.K noW tt) (fun s H C cl fp => ht s H C cl fp) (fun s H C cl fp => (he s H C cl fp).pe) hs, fun ρ st σ g D rel k => rs_set (hf (lc_read hws runI)) ρ st σ g D rel k⟩
end
end VL

namespace VL
open PySem PySem.Spec PyProof.Rows L2

/-! ### dicts as lists of pairs -/
open Classical in
noncomputable def getP (ds : List (PyData × PyData)) (d : PyData) : Option PyData := match ds with
  | [] => none
  | p :: r => if p.1 = d then some p.2 else getP r d
open Classical in
noncomputable def setP (ds : List (PyData × PyData)) (d v : PyData) : List (PyData × PyData) := ds.map fun p => if p.1 = d then (p.1, v) else p
open Classical in
noncomputable def putP (ds : List (PyData × PyData)) (d v : PyData) : List (PyData × PyData) :=
  if ∃ p ∈ ds, p.1 = d then setP ds d v else ds ++ [(d, v)]
theorem getP_none {ds : List (PyData × PyData)} {d : PyData} : getP ds d = none ↔ ¬ ∃ p ∈ ds, p.1 = d := by
  induction ds with
  | nil => simp [getP]
  | cons p r ih =>
    rw [getP]
    split
    · rename_i h; simp [h]
    · rename_i h; rw [ih]; simp [h]
open Classical in
theorem getP_append {ds : List (PyData × PyData)} {d e v : PyData} : getP (ds ++ [(d, v)]) e = if (getP ds e).isSome then getP ds e else if d = e then some v else none := by
  induction ds with
  | nil => simp [getP]
  | cons p r ih =>
    rw [List.cons_append, getP, getP]
    split
    · rfl
    · exact ih
open Classical in
theorem getP_map {ds : List (PyData × PyData)} {d e v : PyData} : getP (setP ds d v) e = if d = e then (getP ds e).map (fun _ => v) else getP ds e := by
  induction ds with
  | nil => simp [getP, setP]
  | cons p r ih =>
    unfold setP at ih ⊢
    rw [List.map_cons, getP, getP]
    by_cases h1 : p.1 = d
    · by_cases h2 : d = e
      · simp [h1, h2]
      · have : ¬ p.1 = e := fun z => h2 (h1 ▸ z)
        rw [if_neg h2] at ih ⊢
        rw [if_pos h1, if_neg this, if_neg this, ih]
    · rw [if_neg h1]
      by_cases h2 : p.1 = e
      · have : ¬ d = e := fun z => h1 (h2.trans z.symm)
        rw [if_pos h2, if_neg this, if_pos h2]
      · rw [if_neg h2, if_neg h2]; exact ih
open Classical in
theorem getP_put {ds : List (PyData × PyData)} {d e v : PyData} : getP (putP ds d v) e = if d = e then some v else getP ds e := by
  unfold putP
  split
  · rename_i h
    rw [getP_map]
    split
    · rename_i hde
      subst hde
      cases hg : getP ds d with
      | none => exact absurd h (getP_none.mp hg)
      | some x => rfl
    · rfl
  · rename_i h
    rw [getP_append]
    have := getP_none.mpr h
    by_cases hde : d = e
    · subst hde
      rw [this, if_pos rfl]; simp
    · rw [if_neg hde]
      cases getP ds e <;> simp [hde]
theorem putP_len {ds : List (PyData × PyData)} {d v : PyData} : (putP ds d v).length ≤ ds.length + 1 := by
  unfold putP setP
  split <;> simp
/-- entries by entries; f: how keys stand -/
def D2 {κ : Type} (K : PySem.W.Frag) (F : Hp) (f : κ → PyData) (ds : List (PyData × PyData)) (xs : List (κ × V)) : Prop := ds.map (·.1) = xs.map (fun p => f p.1) ∧ HasL K F (ds.map (·.2)) (xs.map (·.2))
section
variable {κ : Type} {K : PySem.W.Frag} {F : Hp} {f : κ → PyData}
theorem D2.nil : D2 K F f [] [] := ⟨rfl, .nil⟩
theorem D2.cons {p : PyData × PyData} {q : κ × V} {ds : List (PyData × PyData)} {xs : List (κ × V)} (h1 : p.1 = f q.1) (h2 : Has K F p.2 q.2) (h : D2 K F f ds xs) : D2 K F f (p :: ds) (q :: xs) :=
  ⟨by rw [List.map_cons, List.map_cons, h1, h.1], by rw [List.map_cons, List.map_cons]; exact .cons h2 h.2⟩
theorem D2.inv {q : κ × V} {ds : List (PyData × PyData)} {xs : List (κ × V)} (h : D2 K F f ds (q :: xs)) : ∃ p r, ds = p :: r ∧ p.1 = f q.1 ∧ Has K F p.2 q.2 ∧ D2 K F f r xs := by
  cases ds with
  | nil => exact absurd h.1 (by simp)
  | cons p r =>
    have h1 := h.1
    rw [List.map_cons, List.map_cons] at h1
    injection h1 with a b
    have h2 := h.2
    rw [List.map_cons, List.map_cons] at h2
    obtain ⟨v, z, e, hv, hz⟩ := h2.uncons
    injection e with e1 e2
    exact ⟨p, r, rfl, a, e1 ▸ hv, b, e2 ▸ hz⟩
theorem D2.nil_inv {ds : List (PyData × PyData)} (h : D2 (κ := κ) K F f ds []) : ds = [] := by
  cases ds with
  | nil => rfl
  | cons p r => exact absurd h.1 (by simp)
theorem D2.len {ds : List (PyData × PyData)} {xs : List (κ × V)} (h : D2 K F f ds xs) : xs.length = ds.length := by
  have := congrArg List.length h.1
  simpa using this.symm
theorem D2.get [DecidableEq κ] (hf : ∀ a b, f a = f b → a = b) (k : κ) : ∀ {xs : List (κ × V)} {ds : List (PyData × PyData)}, D2 K F f ds xs → match getP ds (f k) with
    | some d => ∃ v, valV xs k = some v ∧ Has K F d v
    | none => valV xs k = none
  | [], ds, h => by rw [h.nil_inv]; rfl
  | q :: xs, ds, h => by
    obtain ⟨p, r, rfl, h1, h2, h3⟩ := h.inv
    have ih := h3.get hf k
    rw [getP]
    by_cases hk : q.1 = k
    · rw [if_pos (by rw [h1, hk])]
      exact ⟨q.2, valV_pos hk, h2⟩
    · rw [if_neg (fun z => hk (hf _ _ (h1 ▸ z))), valV_neg hk]
      exact ih
theorem D2.mapP [DecidableEq κ] (hf : ∀ a b, f a = f b → a = b) (k : κ) {d : PyData} {v : V} (hv : Has K F d v) : ∀ {xs : List (κ × V)} {ds : List (PyData × PyData)}, D2 K F f ds xs →
    D2 K F f (setP ds (f k) d) (xs.map fun kv => if kv.1 = k then (kv.1, v) else kv)
  | [], ds, h => by rw [h.nil_inv]; exact .nil
  | q :: xs, ds, h => by
    obtain ⟨p, r, rfl, h1, h2, h3⟩ := h.inv
    have ih := h3.mapP hf k hv
    unfold setP at ih ⊢
    rw [List.map_cons, List.map_cons]
    by_cases hk : q.1 = k
    · rw [if_pos (by rw [h1, hk]), if_pos hk]
      exact .cons h1 hv ih
    · rw [if_neg (fun z => hk (hf _ _ (h1 ▸ z))), if_neg hk]
      exact .cons h1 h2 ih
theorem D2.snoc {p : PyData × PyData} {q : κ × V} (h1 : p.1 = f q.1) (h2 : Has K F p.2 q.2) : ∀ {xs : List (κ × V)} {ds : List (PyData × PyData)}, D2 K F f ds xs → D2 K F f (ds ++ [p]) (xs ++ [q])
  | [], ds, h => by rw [h.nil_inv]; exact .cons h1 h2 .nil
  | _ :: xs, ds, h => by
    obtain ⟨p', r, rfl, a, b, c⟩ := h.inv
    exact .cons a b (c.snoc h1 h2)
theorem D2.put [DecidableEq κ] (hf : ∀ a b, f a = f b → a = b) (k : κ) {d : PyData} {v : V} (hv : Has K F d v) {xs : List (κ × V)} {ds : List (PyData × PyData)} (h : D2 K F f ds xs) : D2 K F f (putP ds (f k) d) (putK xs k v) := by
  have hg := h.get hf k
  unfold putP putK
  rw [valV_any]
  split
  · rename_i hx
    cases e : getP ds (f k) with
    | none => exact absurd hx (getP_none.mp e)
    | some y =>
      rw [e] at hg
      obtain ⟨w, hw, _⟩ := hg
      rw [hw, if_pos (by rfl)]
      exact h.mapP hf k hv
  · rename_i hx
    rw [getP_none.mpr hx] at hg
    have hg : valV xs k = none := hg
    rw [hg]
    exact D2.snoc (p := (f k, d)) (q := (k, v)) rfl hv h
theorem D2.mono {F' : Hp} (e : Same F F') {xs : List (κ × V)} {ds : List (PyData × PyData)} (h : D2 K F f ds xs) : D2 K F' f ds xs := ⟨h.1, h.2.mono e⟩
end
theorem keyP_inj (a b : Key) (h : keyP a = keyP b) : a = b := by
  cases a <;> cases b <;> simp only [keyP] at h
  · injection h with h; rw [h]
  · cases h
  · cases h
  · injection h with h; rw [h]
theorem keyT_inj : ∀ (a b : List Key), keyT a = keyT b → a = b := by
  intro a b h
  unfold keyT at h
  injection h with h
  induction a generalizing b with
  | nil => cases b with
    | nil => rfl
    | cons => simp at h
  | cons x r ih => cases b with
    | nil => simp at h
    | cons y s =>
      rw [List.map_cons, List.map_cons] at h
      injection h with h1 h2
      rw [keyP_inj _ _ h1, ih s h2]

/-- a key as data: what kind of dict takes it -/
def isKey : PyData → Bool
  | .int _ => true
  | .str _ => true
  | _ => false
def keyB : Bool → PyData → Bool
  | false, d => isKey d
  | true, .tuple l => l.all isKey
  | true, _ => false
theorem key_of1 {d : PyData} (h : isKey d = true) : ∃ k, d = keyP k := by
  cases d with
  | int i => exact ⟨.inl i, rfl⟩
  | str x => exact ⟨.inr x, rfl⟩
  | _ => cases h
theorem keys_of : ∀ {l : List PyData}, l.all isKey = true → ∃ ks : List Key, l = ks.map keyP
  | [], _ => ⟨[], rfl⟩
  | d :: r, h => by
    rw [List.all_cons, Bool.and_eq_true] at h
    obtain ⟨k, rfl⟩ := key_of1 h.1
    obtain ⟨ks, rfl⟩ := keys_of h.2
    exact ⟨k :: ks, rfl⟩
section
variable {K : PySem.W.Frag}
theorem has_key {F : Hp} {k : Key} {v : V} (h : Has K F (keyP k) v) : v = kV k := by
  cases k with
  | inl i => exact h.int_inv
  | inr x => exact h.str_inv
theorem hasL_keys {F : Hp} : ∀ {ks : List Key} {xs : List V}, HasL K F (ks.map keyP) xs → xs = ks.map kV
  | [], xs, h => h.nil_inv
  | k :: ks, xs, h => by
    obtain ⟨v, r, rfl, h1, h2⟩ := h.uncons
    rw [List.map_cons, has_key h1, hasL_keys h2]
theorem has_tkey {F : Hp} {ks : List Key} {v : V} (h : Has K F (keyT ks) v) : ∃ b, v = .ref b ∧ F b = some (.tup (ks.map kV)) := by
  obtain ⟨a, xs, rfl, s, l⟩ := Has.tup_invX h
  exact ⟨a, rfl, by rw [s, hasL_keys l]⟩

/-- the entries of a dict in flight; the kind where one can tell -/
def kindOf : List (PyData × PyData) → Option Bool
  | [] => none
  | (.tuple _, _) :: _ => some true
  | _ => some false
def dctOf (st : Store) : Vd → Option (Option Bool × List (PyData × PyData))
  | .p (.dict ds) => some (kindOf ds, ds)
  | .p _ => none
  | .loc k => match st[k]? with
    | some (.dct t ds) => some (some t, ds)
    | some (.fz (.dict ds)) => some (kindOf ds, ds)
    | _ => none
def DctRd (K : PySem.W.Frag) (F H : Hp) (a : Addr) (ds : List (PyData × PyData)) : Bool → Prop
  | false => ∃ xs, Rd H a (.dK xs) ∧ D2 K F keyP ds xs
  | true => ∃ xs, Rd H a (.dT xs) ∧ D2 K F keyT ds xs
theorem has_dctRd {st : Store} {g : Gh} (w : Wd K st g) {ds : List (PyData × PyData)} {v : V} (h : Has K g.F (.dict ds) v) : ∃ a, v = .ref a ∧ (DctRd K g.F g.H a ds false ∨ DctRd K g.F g.H a ds true) ∧ ∀ t, kindOf ds = some t → DctRd K g.F g.H a ds t := by
  cases h with
  | @dK a xs _ s l q =>
    have d2 : D2 K g.F keyP ds xs := ⟨l, hasL_map2 (by have := congrArg List.length l; simpa using this.symm) q⟩
    refine ⟨a, rfl, .inl ⟨xs, rd_mono w.sub s, d2⟩, fun t ht => ?_⟩
    cases xs with
    | nil => rw [d2.nil_inv] at ht; cases ht
    | cons x r =>
      obtain ⟨p, r', rfl, h1, _, _⟩ := d2.inv
      have : t = false := by
        obtain ⟨p1, p2⟩ := p
        simp only at h1
        subst h1
        cases hx : x.1 <;> simp only [hx, keyP, kindOf] at ht <;> cases ht <;> rfl
      subst this
      exact ⟨_, rd_mono w.sub s, d2⟩
  | @dT a xs _ s l q =>
    have d2 : D2 K g.F keyT ds xs := ⟨l, hasL_map2 (by have := congrArg List.length l; simpa using this.symm) q⟩
    refine ⟨a, rfl, .inr ⟨xs, rd_mono w.sub s, d2⟩, fun t ht => ?_⟩
    cases xs with
    | nil => rw [d2.nil_inv] at ht; cases ht
    | cons x r =>
      obtain ⟨p, r', rfl, h1, _, _⟩ := d2.inv
      have : t = true := by
        obtain ⟨p1, p2⟩ := p
        simp only at h1
        subst h1
        simp only [keyT, kindOf] at ht
        cases ht; rfl
      subst this
      exact ⟨_, rd_mono w.sub s, d2⟩
theorem dctRd_at {g : Gh} {a : Addr} {t : Bool} {ds : List (PyData × PyData)} (h : DctAt K g.F ds (g.H a) t) : DctRd K g.F g.H a ds t := by
  cases t with
  | false => obtain ⟨xs, q1, q2, q3⟩ := h; exact ⟨xs, .inl q1, q2, q3⟩
  | true => obtain ⟨xs, q1, q2, q3⟩ := h; exact ⟨xs, .inl q1, q2, q3⟩
theorem dctOf_rd {st : Store} {g : Gh} (w : Wd K st g) {x : Vd} {v : V} (h : HasV K g x v) {t : Option Bool} {ds : List (PyData × PyData)} (e : dctOf st x = some (t, ds)) : ∃ a, v = .ref a ∧ (DctRd K g.F g.H a ds false ∨ DctRd K g.F g.H a ds true) ∧ ∀ b, t = some b → DctRd K g.F g.H a ds b := by
  cases x with
  | p d =>
    cases d with
    | dict l =>
      cases e
      exact has_dctRd w h
    | _ => cases e
  | loc k =>
    obtain ⟨a, ha, rfl⟩ := h
    simp only [dctOf] at e
    cases hk : st[k]? with
    | none => rw [hk] at e; cases e
    | some ob =>
      have o := w.own k a ob ha hk
      rw [hk] at e
      cases ob with
      | lst l => cases e
      | dct t' l =>
        cases e
        have := dctRd_at o.2
        refine ⟨a, rfl, ?_, fun b hb => by cases hb; exact this⟩
        cases t'
        · exact .inl this
        · exact .inr this
      | fz d =>
        cases d with
        | dict l =>
          cases e
          exact has_dctRd w o
        | _ => cases e
/-- a look-up -/
theorem dget_of {st : Store} {g : Gh} (w : Wd K st g) {a : Addr} {t : Bool} {ds : List (PyData × PyData)} (h : DctRd K g.F g.H a ds t) {k : PyData} (hk : keyB t k = true) {u : V} (hu : Has K g.F k u) : ∃ o, DGet g.H a u o ∧ match getP ds k with
    | some d => ∃ v, o = some v ∧ Has K g.F d v
    | none => o = none := by
  cases t with
  | false =>
    obtain ⟨xs, r, d2⟩ := h
    obtain ⟨k', rfl⟩ := key_of1 (d := k) hk
    have hg := d2.get keyP_inj k'
    cases has_key hu
    exact ⟨valV xs k', .inl ⟨xs, k', r, rfl, rfl⟩, hg⟩
  | true =>
    obtain ⟨xs, r, d2⟩ := h
    cases k with
    | tuple l =>
      obtain ⟨ks, rfl⟩ := keys_of (l := l) hk
      obtain ⟨b, rfl, hb⟩ := has_tkey (ks := ks) hu
      have hg := d2.get keyT_inj ks
      exact ⟨valV xs ks, .inr ⟨xs, ks, b, r, rfl, w.sub _ _ hb, rfl⟩, hg⟩
    | _ => cases hk
end
section
variable {X : Cx} {W : Wish}
/-! ### operations upon values in flight -/
def OpD (X : Cx) (W : Wish) (r : R2) (o : Store → Vd → Vd → R PyData) : Prop := ∀ (ρ : Slots) (st : Store) (σ : L2.St) (g : Gh) (x y : Vd) (v u : V) (Q : VK), Rel X.K ρ st σ g → HasV X.K g x v → HasV X.K g y u →
    KR (WN X.K W ρ σ g) (okE X.K ρ σ Q g) (o st x y >>= fun d => .ok (.p d, st)) → r v u g.H Q
def vBinD (o : Store → Vd → Vd → R PyData) (f h : FE) : FE := fun ρ st => f ρ st >>= fun a => h ρ a.2 >>= fun b => o b.2 a.1 b.1 >>= fun d => .ok (.p d, b.2)
theorem binD_run {r : R2} {o : Store → Vd → Vd → R PyData} {a b : Expr} {f h : FE} (ho : OpD X W r o) (ha : VE X W a f) (hb : VE X W b h) :
    ∃ ta tb, PE X a ta ∧ PE X b tb ∧ ∀ ρ st σ g Q, Rel X.K ρ st σ g → KE X.K W ρ σ g Q (vBinD o f h ρ st) → tOp r ta tb σ g.H Q := by
  obtain ⟨ta, pa, ra⟩ := ha.run
  obtain ⟨tb, pb, rb⟩ := hb.run
  refine ⟨ta, tb, pa, pb, fun ρ st σ g Q rel k => ?_⟩
  refine ra ρ st σ g _ (okE X.K ρ σ Q) _ okE.goes rel k fun d1 st1 v1 g1 e1 r1 h1 k1 => ?_
  exact rb ρ st1 σ g1 _ (okE X.K ρ σ Q) _ okE.goes r1 k1 fun d2 st2 v2 g2 e2 r2 h2 k2 => ho ρ st2 σ g2 d1 d2 v1 v2 Q r2 (h1.ext e2) h2 k2
theorem opR_or {f : Value → Value → Sem Value} {r r' : R2} (h : OpR X f r) (h' : OpR X f r') : OpR X f (fun x y H Q => r x y H Q ∨ r' x y H Q) := by
  intro pins s σ H x y v u Q I rx ry q
  rcases q with q | q
  · exact h pins s σ H x y v u Q I rx ry q
  · exact h' pins s σ H x y v u Q I rx ry q
def rDIn (neg : Bool) : R2 := fun y x H Q => ∃ a o, x = .ref a ∧ DGet H a y o ∧ Q (.bl (o.isSome != neg)) H
theorem op_din (hu : X.A.units + 65 < cLine) : OpR X (compareOp .In) (rDIn false) := by
  intro pins s σ H y x v u Q I ry rx h
  obtain ⟨a, o, rfl, g, q⟩ := h
  cases (show u = Value.ref a from rx)
  refine d_in (Nat.lt_of_le_of_lt (Nat.add_le_add_left (by decide : 1 ≤ 65) _) hu) I g ry fun s' I' => ⟨_, H, I', ?_, q⟩
  show Value.bool o.isSome = Value.bool (o.isSome != false)
  cases o <;> rfl
theorem op_dnotin (hu : X.A.units + 65 < cLine) : OpR X (compareOp .NotIn) (rDIn true) := by
  intro pins s σ H y x v u Q I ry rx h
  obtain ⟨a, o, rfl, g, q⟩ := h
  cases (show u = Value.ref a from rx)
  refine d_notIn (Nat.lt_of_le_of_lt (Nat.add_le_add_left (by decide : 1 ≤ 65) _) hu) I g ry fun s' I' => ⟨_, H, I', ?_, q⟩
  show Value.bool (!o.isSome) = Value.bool (o.isSome != true)
  cases o <;> rfl
/-- x in c, c of any kind -/
noncomputable def inD (neg : Bool) (st : Store) (x c : Vd) : R PyData := match dctOf st c with
  | some (t, ds) => peek st x >>= fun k => match t with
    | some t => if keyB t k = true then .ok (.bool ((getP ds k).isSome != neg)) else .bad
    | none => .bad
  | none => peek st x >>= fun a => peek st c >>= fun b => if neg = true then notInP a b else inP a b
theorem pk_key {st : Store} {g : Gh} {k : PyData} {t : Bool} {v : V} (hk : keyB t k = true) (h : Pk X.K g k v) : Has X.K g.F k v := by
  cases k with
  | list _ => cases t <;> cases hk
  | dict _ => cases t <;> cases hk
  | _ => exact h
theorem opD_in (hu : X.A.units + 65 < cLine) (neg : Bool) {r : R2} (h : ∀ (ρ : Slots) (st : Store) (σ : L2.St) (g : Gh) (x y : PyData) (v u : V) (Q : VK), Rel X.K ρ st σ g → Pk X.K g x v → Pk X.K g y u →
    KR (WN X.K W ρ σ g) (okE X.K ρ σ Q g) ((if neg = true then notInP x y else inP x y) >>= fun d => .ok (.p d, st)) → r v u g.H Q) : OpD X W (fun x y H Q => r x y H Q ∨ rDIn neg x y H Q) (inD neg) := by
  intro ρ st σ g x y v u Q rel hx hy k
  unfold inD at k
  cases ed : dctOf st y with
  | none =>
    simp only [ed] at k
    cases p1 : peek st x with
    | bad => simp only [p1] at k; exact k.elim
    | exc n s => exact (peek_exc p1).elim
    | ok a =>
      cases p2 : peek st y with
      | bad => simp only [p1, p2] at k; exact k.elim
      | exc n s => exact (peek_exc p2).elim
      | ok b =>
        simp only [p1, p2] at k
        exact .inl (h ρ st σ g a b v u Q rel (pk_of rel.wd hx p1) (pk_of rel.wd hy p2) k)
  | some td =>
    obtain ⟨t, ds⟩ := td
    simp only [ed] at k
    cases p1 : peek st x with
    | bad => simp only [p1] at k; exact k.elim
    | exc n s => exact (peek_exc p1).elim
    | ok a =>
      simp only [p1] at k
      cases t with
      | none => exact k.elim
      | some t =>
        simp only [R.ok_bind] at k
        split at k
        · rename_i hk
          obtain ⟨b, rfl, _, hd⟩ := dctOf_rd rel.wd hy ed
          obtain ⟨o, hg, ho⟩ := dget_of rel.wd (hd t rfl) hk (pk_key (st := st) hk (pk_of rel.wd hx p1))
          refine .inr ⟨b, o, rfl, hg, ?_⟩
          have e : (getP ds a).isSome = o.isSome := by
            cases eg : getP ds a with
            | none => rw [eg] at ho; have ho : o = none := ho; rw [ho]; rfl
            | some d => rw [eg] at ho; obtain ⟨v, e, _⟩ := ho; rw [e]; rfl
          rw [← e]
          exact okP_fin rel (.bl _) k
        · exact k.elim
theorem ve_in {a b : Expr} {f h : FE} {pos : Pos} (hu : X.A.units + 65 < cLine) (ha : VE X W a f) (hb : VE X W b h) (hm : behindInMarks .In b = false := by rfl) : VE X W (.Compare a [.In] [b] pos) (vBinD (inD false) f h) := by
  obtain ⟨r, h1, h2⟩ := ov_in (W := W) hu
  obtain ⟨ta, tb, pa, pb, k⟩ := binD_run (opD_in hu false fun ρ st σ g x y v u Q rel hx hy k => h2 ρ st σ g x y v u Q rel hx hy (by simpa using k)) ha hb
  exact ⟨_, pe_cmpR (opR_or h1 (op_din hu)) pa pb hm, k⟩
theorem ve_notin {a b : Expr} {f h : FE} {pos : Pos} (hu : X.A.units + 65 < cLine) (ha : VE X W a f) (hb : VE X W b h) (hm : behindInMarks .NotIn b = false := by rfl) : VE X W (.Compare a [.NotIn] [b] pos) (vBinD (inD true) f h) := by
  obtain ⟨r, h1, h2⟩ := ov_notIn (W := W) hu
  obtain ⟨ta, tb, pa, pb, k⟩ := binD_run (opD_in hu true fun ρ st σ g x y v u Q rel hx hy k => h2 ρ st σ g x y v u Q rel hx hy (by simpa using k)) ha hb
  exact ⟨_, pe_cmpR (opR_or h1 (op_dnotin hu)) pa pb hm, k⟩
theorem vt_asB {op : CmpOp} {r : R2} {a b : Expr} {ta tb : TE} {f : FE} {pos : Pos} (hr : OpR X (compareOp op) r) (pa : PE X a ta) (pb : PE X b tb) (hm : behindInMarks op b = false) (k : ∀ ρ st σ g Q, Rel X.K ρ st σ g → KE X.K W ρ σ g Q (f ρ st) → tOp r ta tb σ g.H Q) : VT X W (.Compare a [op] [b] pos) (asB f) := by
  refine ⟨_, pt_cmpR hr pa pb hm, fun ρ st σ g Q rel kr => k ρ st σ g _ rel ?_⟩
  refine KR.mono (KR.bind kr) (fun z hz v g' e r' hv => ?_) fun n s hn => hn
  obtain ⟨d, st'⟩ := z
  cases d with
  | loc _ => exact hz.elim
  | p d =>
    cases d with
    | bool b => exact ⟨b, hv.bl_inv, hz g' e r'⟩
    | _ => exact hz.elim
theorem vt_in {a b : Expr} {f h : FE} {pos : Pos} (hu : X.A.units + 65 < cLine) (ha : VE X W a f) (hb : VE X W b h) (hm : behindInMarks .In b = false := by rfl) : VT X W (.Compare a [.In] [b] pos) (asB (vBinD (inD false) f h)) := by
  obtain ⟨r, h1, h2⟩ := ov_in (W := W) hu
  obtain ⟨ta, tb, pa, pb, k⟩ := binD_run (opD_in hu false fun ρ st σ g x y v u Q rel hx hy k => h2 ρ st σ g x y v u Q rel hx hy (by simpa using k)) ha hb
  exact vt_asB (opR_or h1 (op_din hu)) pa pb hm k
theorem vt_notin {a b : Expr} {f h : FE} {pos : Pos} (hu : X.A.units + 65 < cLine) (ha : VE X W a f) (hb : VE X W b h) (hm : behindInMarks .NotIn b = false := by rfl) : VT X W (.Compare a [.NotIn] [b] pos) (asB (vBinD (inD true) f h)) := by
  obtain ⟨r, h1, h2⟩ := ov_notIn (W := W) hu
  obtain ⟨ta, tb, pa, pb, k⟩ := binD_run (opD_in hu true fun ρ st σ g x y v u Q rel hx hy k => h2 ρ st σ g x y v u Q rel hx hy (by simpa using k)) ha hb
  exact vt_asB (opR_or h1 (op_dnotin hu)) pa pb hm k

/-! ### c[i], c of any kind -/
def rDGet : R2 := fun x y H Q => ∃ a v, x = .ref a ∧ DGet H a y (some v) ∧ Q v H
theorem ix_dict (hu : X.A.units + 65 < cLine) : IxR X rDGet := by
  intro value slice pins s σ H x y v u Q I rx ry h hs
  obtain ⟨a, w, rfl, g, q⟩ := h
  cases (show v = Value.ref a from rx)
  have hT := dict_typeIs I g
  unfold subscriptTail
  refine wpAny_bind ?_
  rw [getitemInPython_of_ne hT.not_modules]
  refine wpAny_bind (wpAny_specialOf hT PySem.F.slot_dict_getitem.lookup ?_)
  have fin : wpAny (model X.prog X.w) X.A (subscripted slice false (.ref a) u) (fun r s₃ => wpAny (model X.prog X.w) X.A (letTemporaryGo value (.ref a) r >>= fun _ => pure r) (EP X pins σ Q) X.xe s₃) X.xe s := by
    rw [hs]
    refine wpAny_operating (d_getItem (Nat.lt_of_le_of_lt (Nat.add_le_add_left (by decide : 1 ≤ 65) _) hu) I g ry fun w' s3 I3 rw' => wpAny_bind (wpAny_letTemporaryGo (wpAny_pure ⟨w, H, I3, rw', q⟩)))
  first
    | exact wpAny_pure (wpAny_bind fin)
    | exact wpAny_bind (wpAny_pure (wpAny_bind fin))
    | exact wpAny_bind fin
noncomputable def ixD (st : Store) (x i : Vd) : R PyData := match dctOf st x with
  | some (some t, ds) => peek st i >>= fun k => if keyB t k = true then optR (getP ds k) else .bad
  | some (none, _) => .bad
  | none => peek st x >>= fun a => peek st i >>= fun b => idxP a b
theorem opD_ix : ∃ r, IxR X r ∧ OpD X W (fun x y H Q => r x y H Q ∨ rDGet x y H Q) ixD := by
  obtain ⟨r, h1, h2⟩ := ix_seqV (X := X) (W := W)
  refine ⟨r, h1, ?_⟩
  intro ρ st σ g x y v u Q rel hx hy k
  unfold ixD at k
  cases ed : dctOf st x with
  | none =>
    simp only [ed] at k
    cases p1 : peek st x with
    | bad => simp only [p1] at k; exact k.elim
    | exc n s => exact (peek_exc p1).elim
    | ok a =>
      cases p2 : peek st y with
      | bad => simp only [p1, p2] at k; exact k.elim
      | exc n s => exact (peek_exc p2).elim
      | ok b =>
        simp only [p1, p2] at k
        exact .inl (h2 ρ st σ g a b v u Q rel (pk_of rel.wd hx p1) (pk_of rel.wd hy p2) k)
  | some td =>
    obtain ⟨t, ds⟩ := td
    cases t with
    | none => simp only [ed] at k; exact k.elim
    | some t =>
      simp only [ed] at k
      cases p1 : peek st y with
      | bad => simp only [p1] at k; exact k.elim
      | exc n s => exact (peek_exc p1).elim
      | ok a =>
        simp only [p1, R.ok_bind] at k
        split at k
        · rename_i hk
          obtain ⟨b, rfl, _, hd⟩ := dctOf_rd rel.wd hx ed
          obtain ⟨o, hg, ho⟩ := dget_of rel.wd (hd t rfl) hk (pk_key (st := st) hk (pk_of rel.wd hy p1))
          cases eg : getP ds a with
          | none => rw [eg] at k; exact k.elim
          | some d =>
            rw [eg] at ho k
            obtain ⟨w, rfl, hw⟩ := ho
            exact .inr ⟨b, w, rfl, hg, okP_fin rel hw k⟩
        · exact k.elim
theorem ve_sub {a b : Expr} {f h : FE} {pos : Pos} (hu : X.A.units + 65 < cLine) (ha : VE X W a f) (hb : VE X W b h) (hs : PlainIx b := by intro _ _; rfl) : VE X W (.Subscript a b pos) (vBinD ixD f h) := by
  obtain ⟨r, h1, h2⟩ := opD_ix (X := X) (W := W)
  obtain ⟨ta, tb, pa, pb, k⟩ := binD_run h2 ha hb
  exact ⟨_, pe_ix (h1.or (ix_dict hu)) pa pb hs, k⟩
end
end VL

namespace VL
open PySem PySem.Spec PyProof.Rows L2

/-! ### an owned object changes -/
section
variable {K : PySem.W.Frag}
theorem ext_mut {g : Gh} {k : Nat} {a : Addr} (ha : g.A[k]? = some a) (o : HO) : Ext g ⟨g.F, g.A, upd g.H a o⟩ :=
  ⟨Same.refl _, ⟨[], by simp, fun a z => by simp at z⟩, fun b x e _ hn => by
    show upd g.H a o b = some x
    rw [upd_ne (fun (z : b = a) => hn (by rw [z]; exact List.mem_of_getElem? ha))]; exact e, fun b e => by
    have e : upd g.H a o b = none := e
    by_cases hb : b = a
    · rw [hb, upd_same] at e; cases e
    · rw [upd_ne hb] at e; exact e, fun _ _ _ _ hf => hf, fun b ps e hn => ⟨ps, by
    show upd g.H a o b = some (.tbl ps)
    rw [upd_ne (fun (z : b = a) => hn (by rw [z]; exact List.mem_of_getElem? ha))]; exact e⟩⟩
theorem wd_mut {st : Store} {g : Gh} (w : Wd K st g) {k : Nat} {a : Addr} (ha : g.A[k]? = some a) (hF : g.F a = none) {ob : Ob} {o : HO} (hn : NewAt K g.F ob o) : Wd K (st.set k ob) ⟨g.F, g.A, upd g.H a o⟩ := by
  refine ⟨fun b x q => ?_, w.nd, by rw [List.length_set]; exact w.len, fun b hb => ?_, fun j b ob' hj hb => ?_, fun P hP => ?_⟩
  · show upd g.H a o b = some x
    have q : g.F b = some x := q
    rw [upd_ne (fun z => by rw [z, hF] at q; cases q)]; exact w.sub b x q
  · by_cases hba : b = a
    · exact ⟨o, by show upd g.H a o b = some o; rw [hba, upd_same]⟩
    · obtain ⟨x, hx⟩ := w.there b hb
      refine ⟨x, ?_⟩
      show upd g.H a o b = some x
      rw [upd_ne hba]; exact hx
  · have hj : g.A[j]? = some b := hj
    by_cases hjk : j = k
    · subst hjk
      have hlt : j < st.length := by rw [← w.len]; exact (List.getElem?_eq_some_iff.mp ha).1
      rw [List.getElem?_set_self hlt] at hb
      cases hb
      rw [ha] at hj
      cases hj
      exact obAt_new (g := ⟨g.F, g.A, upd g.H a o⟩) hn hF upd_same
    · rw [List.getElem?_set_ne (Ne.symm hjk)] at hb
      have hba : b ≠ a := fun z => hjk (nd_ix w.nd hj (by rw [z]; exact ha))
      refine ObAt.ext (g := g) (g' := ⟨g.F, g.A, upd g.H a o⟩) (Same.refl _) id ?_ (w.own j b ob' hj hb)
      show upd g.H a o b = g.H b
      rw [upd_ne hba]
  · have hPa : P.2 ≠ a := fun z => (w.tabs P hP).2.2 (by rw [z]; exact List.mem_of_getElem? ha)
    exact (w.tabs P hP).mono (show upd g.H a o P.2 = g.H P.2 by rw [upd_ne hPa]) rfl rfl
theorem rel_mut {ρ : Slots} {st : Store} {σ : L2.St} {g : Gh} (r : Rel K ρ st σ g) {k : Nat} {a : Addr} (ha : g.A[k]? = some a) (hF : g.F a = none) {ob : Ob} {o : HO} (hn : NewAt K g.F ob o) : Rel K ρ (st.set k ob) σ ⟨g.F, g.A, upd g.H a o⟩ :=
  ⟨wd_mut r.wd ha hF hn, r.sl.ext (ext_mut ha o)⟩
theorem own_lst {st : Store} {g : Gh} (w : Wd K st g) {k : Nat} {a : Addr} (ha : g.A[k]? = some a) {l : List PyData} (h : st[k]? = some (.lst l)) : g.F a = none ∧ ∃ xs, g.H a = some (.lst xs) ∧ HasL K g.F l xs := w.own k a _ ha h
theorem own_dct {st : Store} {g : Gh} (w : Wd K st g) {k : Nat} {a : Addr} (ha : g.A[k]? = some a) {t : Bool} {l : List (PyData × PyData)} (h : st[k]? = some (.dct t l)) : g.F a = none ∧ DctAt K g.F l (g.H a) t := w.own k a _ ha h
end

/-! ### o[i] = v -/
noncomputable def putS (st : Store) (o : Vd) (i d : PyData) : R Store := match o with
  | .p _ => .bad
  | .loc k => match st[k]? with
    | some (.lst ds) => match i with
      | .int n => match ixN ds.length n with
        | some j => .ok (st.set k (.lst (ds.set j d)))
        | none => .bad
      | _ => .bad
    | some (.dct t ds) => if keyB t i = true ∧ ds.length < LIM then .ok (st.set k (.dct t (putP ds i d))) else .bad
    | _ => .bad
section
variable {X : Cx} {W : Wish}
theorem set_or {t t' : TSet} (h : PSet X t) (h' : PSet X t') : PSet X (fun o i v H Q => t o i v H Q ∨ t' o i v H Q) := by
  intro pins s σ H o i v ov iv u Q I ro ri rv q
  rcases q with q | q
  · exact h pins s σ H o i v ov iv u Q I ro ri rv q
  · exact h' pins s σ H o i v ov iv u Q I ro ri rv q
theorem put_run {ρ : Slots} {st : Store} {σ : L2.St} {g : Gh} {o : Vd} {x ui v : V} {i d : PyData} {Q : Hp → Prop} (rel : Rel X.K ρ st σ g) (ho : HasV X.K g o x) (hi : Pk X.K g i ui) (hd : Has X.K g.F d v)
    (k : KR no (fun st' => ∀ g', Ext g g' → Rel X.K ρ st' σ g' → Q g'.H) (putS st o i d)) : rSetL x ui v g.H Q ∨ rSetD x ui v g.H Q := by
  cases o with
  | p _ => exact k.elim
  | loc j =>
    obtain ⟨a, ha, rfl⟩ := ho
    unfold putS at k
    simp only at k
    cases hj : st[j]? with
    | none => rw [hj] at k; exact k.elim
    | some ob =>
      rw [hj] at k
      cases ob with
      | fz _ => exact k.elim
      | lst ds =>
        obtain ⟨hF, xs, hH, hl⟩ := own_lst rel.wd ha hj
        cases i with
        | int n =>
          simp only at k
          cases hx : ixN ds.length n with
          | none => simp only [hx] at k; exact k.elim
          | some m =>
            simp only [hx] at k
            have hn : NewAt X.K g.F (.lst (ds.set m d)) (.lst (xs.set m v)) := ⟨_, rfl, hl.set hd m⟩
            refine .inl ⟨a, xs, n, m, rfl, hi.int, hH, by rw [hl.1]; exact hx, ?_⟩
            exact k _ (ext_mut ha _) (rel_mut rel ha hF hn)
        | _ => exact k.elim
      | dct t ds =>
        obtain ⟨hF, hD⟩ := own_dct rel.wd ha hj
        simp only at k
        split at k
        · rename_i hk
          have hu := pk_key (X := X) (st := st) hk.1 hi
          have go : ∀ o', DPut g.H a ui v (upd g.H a o') → NewAt X.K g.F (.dct t (putP ds i d)) o' → rSetL (.ref a) ui v g.H Q ∨ rSetD (.ref a) ui v g.H Q := fun o' hp hn =>
            .inr ⟨a, _, rfl, hp, k _ (ext_mut ha _) (rel_mut rel ha hF hn)⟩
          cases t with
          | false =>
            obtain ⟨xs, e, d2⟩ := hD
            have d2 : D2 X.K g.F keyP ds xs := d2
            obtain ⟨k', rfl⟩ := key_of1 (d := i) hk.1
            cases has_key hu
            have := d2.put keyP_inj k' hd
            exact go (.dK (putK xs k' v)) (.k e (by rw [d2.len, lim_eq]; exact hk.2)) ⟨_, rfl, this⟩
          | true =>
            obtain ⟨xs, e, d2⟩ := hD
            have d2 : D2 X.K g.F keyT ds xs := d2
            cases i with
            | tuple l =>
              obtain ⟨ks, rfl⟩ := keys_of (l := l) hk.1
              obtain ⟨b, rfl, hb⟩ := has_tkey (ks := ks) hu
              have := d2.put keyT_inj ks hd
              exact go (.dT (putK xs ks v)) (.t e (rel.wd.sub _ _ hb) (by rw [d2.len, lim_eq]; exact hk.2)) ⟨_, rfl, this⟩
            | _ => exact absurd hk.1 (by simp [keyB])
        · exact k.elim
/-- an answer's use within a statement, where the heap stands -/
theorem liftS_peek {ρ : Slots} {st : Store} {x : Vd} {D : Ends} {g : Gh} {k : PyData → RS} (h : KS X.K W D g (peek st x >>= k)) : ∃ d, peek st x = .ok d ∧ KS X.K W D g (k d) := peek_bind h
noncomputable def sPut (fv fo fi : FE) : FS := fun ρ st => liftS ρ (fv ρ st) fun v => liftS ρ (fo ρ v.2) fun o => liftS ρ (fi ρ o.2) fun i => peek i.2 i.1 >>= fun n => frz i.2 v.1 >>= fun d => putS d.2 o.1 n d.1 >>= fun st' => .ok (.nx, ρ, st')
theorem Pk.frz_in {K : PySem.W.Frag} {g g' : Gh} (e : Ext g g') (eH : g'.H = g.H) {d : PyData} {v : V} (h : Pk K g d v) : Pk K g' d v := by
  cases d with
  | list ds => obtain ⟨a, xs, q, s, l⟩ := h; exact ⟨a, xs, q, by rw [eH]; exact s, l.mono e.frz⟩
  | dict ds =>
    obtain ⟨a, q, h⟩ := h
    refine ⟨a, q, ?_⟩
    rw [eH]
    rcases h with ⟨xs, h1, h2, h3⟩ | ⟨xs, h1, h2, h3⟩
    · exact .inl ⟨xs, h1, h2, h3.mono e.frz⟩
    · exact .inr ⟨xs, h1, h2, h3.mono e.frz⟩
  | _ => exact Has.mono e.frz h
theorem vs_put {o i e : Expr} {fv fo fi : FE} {tpos pos : Pos} (hu : X.A.units + 64 < cLine) (hv : VE X W e fv) (ho : VE X W o fo) (hi : VE X W i fi) (hs : swapsWithSole [.Subscript o i tpos] e pos.line X.env = pure false := by rfl) (hw : swappedStores [.Subscript o i tpos] e X.env = pure none := by rfl)
    (h1 : (assignEach [.Subscript o i tpos] X.env).map (·.2) = [assign (.Subscript o i tpos) X.env] := by rfl)
    (ha : ∀ v, assign (.Subscript o i tpos) X.env v = (do
      let ov ← holding [v] (eval o X.env)
      let iv ← holding [v, ov] (eval i X.env)
      standAt tpos
      holding [v, ov, iv] (setItem ov iv v)
      release [v, ov, iv] []) := by intro _; rfl) : VS X W (.Assign [.Subscript o i tpos] e pos) (sPut fv fo fi) := by
  obtain ⟨tv, pv, rv⟩ := hv.runS
  obtain ⟨to, po, ro⟩ := ho.runS
  obtain ⟨ti, pi, ri⟩ := hi.runS
  refine ⟨_, ps_asg pv (pg_sub po pi (set_or set_list (set_dict (Nat.lt_of_le_of_lt (Nat.add_le_add_left (by decide : 1 ≤ 64) _) hu))) ha) hs hw h1, fun ρ st σ g D rel k => ?_⟩
  refine rv ρ st σ g _ D _ rel k fun d1 st1 v1 g1 e1 r1 h1 k1 => ?_
  refine ro ρ st1 σ g1 _ D _ r1 k1 fun d2 st2 v2 g2 e2 r2 h2 k2 => ?_
  refine ri ρ st2 σ g2 _ D _ r2 k2 fun d3 st3 v3 g3 e3 r3 h3 k3 => ?_
  obtain ⟨n, pn, k4⟩ := peek_bind k3
  obtain ⟨⟨d, st4⟩, pd, k5⟩ := frz_bind k4
  have hn := pk_of r3.wd h3 pn
  obtain ⟨g4, eH, e4, r4, h4⟩ := frz_ok r3 ((h1.ext e2).ext e3) pd
  have := put_run (Q := fun H => D.nx σ H) r4 ((h2.ext e3).ext e4) (hn.frz_in e4 eH) h4 (KR.mono (KR.bind k5) (fun st' hq g' e' r' => hq σ g' (e4.trans e') r') fun _ _ z => z)
  rw [← eH]
  exact this

/-! ### name op= e -/
def IpV (X : Cx) (op : Operator) (f : PyData → PyData → R PyData) : Prop := ∃ t, PIp X op t ∧ ∀ (ρ : Slots) (st : Store) (σ : L2.St) (g : Gh) (x y : PyData) (v u : V) (Q : VK), Rel X.K ρ st σ g → Pk X.K g x v → Pk X.K g y u →
    KR no (fun d => ∀ w g', Ext g g' → Rel X.K ρ st σ g' → Has X.K g'.F d w → Q w g'.H) (f x y) → t v u g.H Q
def addI : PyData → PyData → R PyData
  | .int i, .int j => .ok (.int (i + j))
  | _, _ => .bad
def subI : PyData → PyData → R PyData
  | .int i, .int j => .ok (.int (i - j))
  | _, _ => .bad
theorem iv_add : IpV X .Add addI := by
  refine ⟨_, ip_add, fun ρ st σ g x y v u Q rel hx hy k => ?_⟩
  cases x with
  | int i =>
    cases y with
    | int j => exact ⟨i, j, hx.int, hy.int, k _ g (Ext.refl g) rel (.int _)⟩
    | _ => exact k.elim
  | _ => cases y <;> exact k.elim
theorem iv_sub : IpV X .Sub subI := by
  refine ⟨_, ip_sub, fun ρ st σ g x y v u Q rel hx hy k => ?_⟩
  cases x with
  | int i =>
    cases y with
    | int j => exact ⟨i, j, hx.int, hy.int, k _ g (Ext.refl g) rel (.int _)⟩
    | _ => exact k.elim
  | _ => cases y <;> exact k.elim
def sAug (i : Nat) (o : PyData → PyData → R PyData) (f : FE) : FS := fun ρ st => match ρ[i]? with
  | some (some x) => liftS ρ (f ρ st) fun a => peek a.2 x >>= fun u => peek a.2 a.1 >>= fun v => o u v >>= fun d => .ok (.nx, ρ.set i (some (.p d)), a.2)
  | _ => .bad
theorem vs_aug {i : Nat} {x : Str} {e : Expr} {f : FE} {o : PyData → PyData → R PyData} {op : Operator} {pos pos' : Pos} (hN : X.N.Nodup) (hi : X.N[i]? = some x) (hx : Loc X.env.scope x) (ho : IpV X op o) (he : VE X W e f) (hf : X.fn x = true ∨ X.env.scope.names.lookup x = some .local := by first | exact .inl rfl | exact .inr rfl | assumption) :
    VS X W (.AugAssign (.Name x pos') op e pos) (sAug i o f) := by
  obtain ⟨t, pe, run⟩ := he.runS
  obtain ⟨ti, pip, hip⟩ := ho
  refine ⟨_, ps_aug hN hi hx pe pip hf, fun ρ st σ g D rel k => ?_⟩
  unfold sAug at k
  cases hr : ρ[i]? with
  | none => simp only [hr] at k; exact k.elim
  | some ov =>
    cases ov with
    | none => simp only [hr] at k; exact k.elim
    | some x0 =>
      simp only [hr] at k
      obtain ⟨v0, s1, h0⟩ := rel.sl.2 i x0 hr
      refine ⟨v0, s1, ?_⟩
      refine run ρ st σ g _ D _ rel k fun d1 st1 v1 g1 e1 r1 h1 k1 => ?_
      obtain ⟨u, pu, k2⟩ := peek_bind k1
      obtain ⟨w, pw, k3⟩ := peek_bind k2
      refine hip ρ st1 σ g1 u w v0 v1 _ r1 (pk_of r1.wd (h0.ext e1) pu) (pk_of r1.wd h1 pw) ?_
      exact KR.mono (KR.bind k3) (fun d hd w' g' e' r' hw => hd _ g' e' ⟨r'.wd, r'.sl.set (show HasV X.K g' (.p d) w' from hw) i⟩) fun _ _ z => z

/-! ### methods -/
def MthV (X : Cx) (W : Wish) (T id : String) (ty : Store → Vd → Bool) (M : Store → Vd → List Vd → R (Vd × Store)) : Prop :=
  ∃ r, MtR X id r ∧ (∀ (st : Store) (g : Gh) (x : Vd) (v : V), Wd X.K st g → HasV X.K g x v → ty st x = true → tyV X.K T v g.H) ∧
  ∀ (ρ : Slots) (st : Store) (σ : L2.St) (g : Gh) (x : Vd) (v : V) (ds : List Vd) (vs : List V) (Q : VK), Rel X.K ρ st σ g → HasV X.K g x v → HasVL X.K g ds vs → KR (WN X.K W ρ σ g) (okE X.K ρ σ Q g) (M st x ds) → r v vs g.H Q
def vMth (ty : Store → Vd → Bool) (M : Store → Vd → List Vd → R (Vd × Store)) (fo : FE) (fa : FA) : FE := fun ρ st => fo ρ st >>= fun o => if ty o.2 o.1 = true then fa ρ o.2 >>= fun a => M a.2 o.1 a.1 else .bad
variable {o e : Expr} {es : List Expr} {fo : FE} {fa : FA} {name : Str} {apos cpos : Pos} {T id : String} {ty : Store → Vd → Bool} {M : Store → Vd → List Vd → R (Vd × Store)}
theorem ve_mth (pa : PlainAttrs T) (slot : Slot T name id) (hty : typeOf (.builtin id) = pure (.type "method_descriptor")) (hm : MthV X W T id ty M) (ho : VE X W o fo) (ha : VA X W (e :: es) fa)
    (hbase : attributeBase o name X.env (eval o X.env) = eval o X.env := by rfl)
    (hfew : ((backTo cpos (starEach (e :: es) X.env)).all (fun x => !x.1) && (backToKw cpos (keywordEach [] X.env)).all (fun x => x.1.isSome)
      && decide ((e :: es).length + ([] : List Keyword).length + (if ([] : List Keyword).isEmpty then 0 else 1) < 30)) = true := by rfl)
    (hline : (apos.endLine == cpos.line) = true := by rfl) (hs : starEach (e :: es) X.env = (false, eval e X.env) :: starEach es X.env := by rfl) (hplain : (backTo cpos (starEach es X.env)).any (·.1) = false := by rfl) :
    VE X W (.Call (.Attribute o name apos) (e :: es) [] cpos) (vMth ty M fo fa) := by
  obtain ⟨r, hr, htyp, hread⟩ := hm
  obtain ⟨t, pe, run⟩ := ho.run
  obtain ⟨ta, pae, runa⟩ := ha.run
  refine ⟨_, pe_bm pa slot hty hr pe pae hbase hfew hline hs hplain, fun ρ st σ g Q rel k => ?_⟩
  refine run ρ st σ g _ (okE X.K ρ σ Q) _ okE.goes rel k fun d1 st1 v1 g1 e1 r1 h1 k1 => ?_
  simp only at k1
  split at k1
  · rename_i ht
    refine ⟨htyp st1 g1 d1 v1 r1.wd h1 ht, ?_⟩
    exact runa ρ st1 σ g1 _ (okE X.K ρ σ Q) _ okE.goes r1 k1 fun ds st2 vs g2 e2 r2 h2 k2 => hread ρ st2 σ g2 d1 v1 ds vs Q r2 (h1.ext e2) h2 k2
  · exact k1.elim
theorem ve_mth0 (pa : PlainAttrs T) (slot : Slot T name id) (hty : typeOf (.builtin id) = pure (.type "method_descriptor")) (hm : MthV X W T id ty M) (ho : VE X W o fo)
    (hbase : attributeBase o name X.env (eval o X.env) = eval o X.env := by rfl) (hline : (apos.endLine == cpos.line) = true := by rfl) : VE X W (.Call (.Attribute o name apos) [] [] cpos) (vMth ty M fo aNil) := by
  obtain ⟨r, hr, htyp, hread⟩ := hm
  obtain ⟨t, pe, run⟩ := ho.run
  refine ⟨_, pe_bm0 pa slot hty hr pe hbase hline, fun ρ st σ g Q rel k => ?_⟩
  refine run ρ st σ g _ (okE X.K ρ σ Q) _ okE.goes rel k fun d1 st1 v1 g1 e1 r1 h1 k1 => ?_
  simp only at k1
  split at k1
  · rename_i ht
    exact ⟨htyp st1 g1 d1 v1 r1.wd h1 ht, hread ρ st1 σ g1 d1 v1 [] [] Q r1 h1 .nil k1⟩
  · exact k1.elim
def isLstV (st : Store) (x : Vd) : Bool := match peek st x with
  | .ok (.list _) => true
  | _ => false
theorem isLst_ty (st : Store) (g : Gh) (x : Vd) (v : V) (w : Wd X.K st g) (h : HasV X.K g x v) (e : isLstV st x = true) : tyV X.K "list" v g.H := by
  unfold isLstV at e
  split at e
  · rename_i ds hp
    obtain ⟨a, xs, rfl, s, _⟩ := (pk_of w h hp).lst
    exact .inl ⟨rfl, xs, s⟩
  · cases e
/-- l.append(d) -/
def mAppend (st : Store) (x : Vd) (ds : List Vd) : R (Vd × Store) := match x, ds with
  | .loc k, [d] => frz st d >>= fun a => match a.2[k]? with
    | some (.lst l) => if l.length < LIM then .ok (.p .none, a.2.set k (.lst (l ++ [a.1]))) else .bad
    | _ => .bad
  | _, _ => .bad
theorem mv_append : MthV X W "list" "list.append" isLstV mAppend := by
  refine ⟨_, mt_append, isLst_ty, fun ρ st σ g x v ds vs Q rel hx hd k => ?_⟩
  cases x with
  | p _ => exact k.elim
  | loc j =>
    cases ds with
    | nil => exact k.elim
    | cons d r =>
      cases r with
      | cons _ _ => exact k.elim
      | nil =>
        obtain ⟨u, ur, rfl, h1, h2⟩ := hd.uncons
        cases h2.nil_inv
        obtain ⟨⟨d', st'⟩, pd, k1⟩ := frz_bind (show KR _ _ (frz st d >>= _) from k)
        obtain ⟨g', eH, e', r', h'⟩ := frz_ok rel h1 pd
        obtain ⟨a, ha, rfl⟩ := hx.ext e'
        simp only at k1
        cases hj : st'[j]? with
        | none => rw [hj] at k1; exact k1.elim
        | some ob =>
          rw [hj] at k1
          cases ob with
          | lst l =>
            simp only at k1
            split at k1
            · rename_i hl
              obtain ⟨hF, xs, hH, hL⟩ := own_lst r'.wd ha hj
              have hn : NewAt X.K g'.F (.lst (l ++ [d'])) (.lst (xs ++ [u])) := ⟨_, rfl, hL.append (.singleton h')⟩
              refine ⟨a, xs, u, rfl, rfl, by rw [← eH]; exact hH, by rw [hL.1, lim_eq]; exact hl, ?_⟩
              rw [← eH]
              exact k1 .non _ (e'.trans (ext_mut ha _)) (rel_mut r' ha hF hn) (show Has X.K g'.F .none .non from .non)
            · exact k1.elim
          | _ => exact k1.elim
/-- l.pop() -/
def mPop (st : Store) (x : Vd) (ds : List Vd) : R (Vd × Store) := match x, ds with
  | .loc k, [] => match st[k]? with
    | some (.lst l) => match l[l.length - 1]? with
      | some d => .ok (.p d, st.set k (.lst l.dropLast))
      | none => .bad
    | _ => .bad
  | _, _ => .bad
theorem mv_pop : MthV X W "list" "list.pop" isLstV mPop := by
  refine ⟨_, mt_pop, isLst_ty, fun ρ st σ g x v ds vs Q rel hx hd k => ?_⟩
  cases x with
  | p _ => exact k.elim
  | loc j =>
    cases ds with
    | cons _ _ => exact k.elim
    | nil =>
      cases hd.nil_inv
      obtain ⟨a, ha, rfl⟩ := hx
      simp only [mPop] at k
      cases hj : st[j]? with
      | none => rw [hj] at k; exact k.elim
      | some ob =>
        rw [hj] at k
        cases ob with
        | lst l =>
          simp only at k
          cases hd : l[l.length - 1]? with
          | none => rw [hd] at k; exact k.elim
          | some d =>
            rw [hd] at k
            obtain ⟨hF, xs, hH, hL⟩ := own_lst rel.wd ha hj
            obtain ⟨y, hy, hdy⟩ := hL.get hd
            have hn : NewAt X.K g.F (.lst l.dropLast) (.lst xs.dropLast) := ⟨_, rfl, hL.dropLast⟩
            exact ⟨a, xs, y, rfl, rfl, hH, by rw [hL.1]; exact hy, k y _ (ext_mut ha _) (rel_mut rel ha hF hn) (show Has X.K g.F d y from hdy)⟩
        | _ => exact k.elim
/-- the first place of an equal one -/
def idxOf (ds : List PyData) (d : PyData) : Option Nat := ds.findIdx? fun z => PyData.eqv z d
def mIndex (st : Store) (x : Vd) (ds : List Vd) : R (Vd × Store) := match ds with
  | [y] => peek st x >>= fun l => peek st y >>= fun d => match l with
    | .list l => if SeqAt.shaped (.list l) = true ∧ SeqAt.shaped d = true then match idxOf l d with
      | some j => .ok (.p (.int (j : Nat)), st)
      | none => .bad else .bad
    | _ => .bad
  | _ => .bad
theorem mv_index (hu : X.A.units + 65 < cLine) : MthV X W "list" "list.index" isLstV mIndex := by
  refine ⟨_, mt_indexD hu, isLst_ty, fun ρ st σ g x v ds vs Q rel hx hd k => ?_⟩
  cases ds with
  | nil => exact k.elim
  | cons y r =>
    cases r with
    | cons _ _ => exact k.elim
    | nil =>
      obtain ⟨u, ur, rfl, h1, h2⟩ := hd.uncons
      cases h2.nil_inv
      obtain ⟨l, pl, k1⟩ := peek_bind (show KR _ _ (peek st x >>= _) from k)
      obtain ⟨d, pd, k2⟩ := peek_bind k1
      have hl := pk_of rel.wd hx pl
      have hy := pk_of rel.wd h1 pd
      cases l with
      | list l =>
        simp only at k2
        split at k2
        · rename_i hs
          cases hj : idxOf l d with
          | none => rw [hj] at k2; exact k2.elim
          | some j =>
            rw [hj] at k2
            obtain ⟨a, xs, rfl, s, hL⟩ := hl.lst
            have hf := List.findIdx?_eq_some_iff_getElem.mp hj
            obtain ⟨jl, p1, p2⟩ := hf
            refine ⟨a, u, d, l, j, l[j], rfl, rfl, Pk.dp rel.wd hl (canLay_shaped hs.1), Pk.dp rel.wd hy (canLay_shaped hs.2), hs.1, hs.2, List.getElem?_eq_getElem jl, p1, fun m z hm hz => ?_, okP_fin rel (.int _) k2⟩
            obtain ⟨ml, em⟩ := List.getElem?_eq_some_iff.mp hz
            have := p2 m hm
            rw [em] at this
            simpa using this
        · exact k2.elim
      | _ => exact k2.elim

/-! ### {} -/
def nDct (t : Bool) : FN := fun _ st => .ok (.dct t [], st)
theorem vn_dctK {pos : Pos} : VN X W (.Dict [] [] pos) (nDct false) :=
  ⟨_, pe_dnewK, fun ρ st σ g Q rel k p hp => okN_new rel k hp ⟨[], rfl, rfl, .nil⟩⟩
theorem vn_dctT {pos : Pos} : VN X W (.Dict [] [] pos) (nDct true) :=
  ⟨_, pe_dnewT, fun ρ st σ g Q rel k p hp => okN_new rel k hp ⟨[], rfl, rfl, .nil⟩⟩

/-! ### a, b = e, f -/
def sAsgT (fa : FA) (n : Nat) (h : FGs) : FS := fun ρ st => liftS ρ (fa ρ st) fun a => if a.1.length = n ∧ n ≤ LIM then h a.1 ρ a.2 >>= fun ρ' => .ok (.nx, ρ', a.2) else .bad
theorem vs_asgT {ts es : List Expr} {k1 k2 : Nat} {fa : FA} {h : FGs} {n : Nat} {vs : List Nat} {p1 p2 pos : Pos} (hc : X.calm = true) (ha : VA X W es fa) (hg : VGs X vs ts h) (hn : (assignEach ts X.env).length = n := by rfl) (hst : (assignEach ts X.env).findIdx? (·.1) = none := by rfl)
    (hs : swapsWithSole [.Tuple ts k1 p1] (.Tuple es k2 p2) pos.line X.env = pure false := by rfl) (hw : swappedStores [.Tuple ts k1 p1] (.Tuple es k2 p2) X.env = pure none := by rfl) (h1 : (assignEach [.Tuple ts k1 p1] X.env).map (·.2) = [assign (.Tuple ts k1 p1) X.env] := by rfl) :
    VS X W (.Assign [.Tuple ts k1 p1] (.Tuple es k2 p2) pos) (sAsgT fa n h) := by
  obtain ⟨t, pa, run⟩ := ha
  obtain ⟨u, pu, run2⟩ := hg
  refine ⟨_, ps_asg (pe_tup pa) (pg_tup hc pu hn hst) hs hw h1, fun ρ st σ g D rel k => ?_⟩
  refine run ρ st σ g _ rel ?_
  unfold sAsgT at k
  cases hf : fa ρ st with
  | bad => rw [hf] at k; exact k.elim
  | exc m s => rw [hf] at k; exact fun g1 e r => k σ g1 e r
  | ok a =>
    rw [hf] at k
    obtain ⟨ds, st1⟩ := a
    simp only [liftS_ok] at k
    split at k
    · rename_i hl
      intro us g1 e1 r1 hv
      refine ⟨by rw [lim_eq, hv.1, hl.1]; exact hl.2, fun p hp => ?_⟩
      refine ⟨p, us, rfl, .inl (.inl upd_same), hv.1.trans hl.1, ?_⟩
      have ex := ext_raw (o := .tup us) hp
      refine run2 ρ st1 σ (g1.raw p (.tup us)) ds us _ ⟨wd_raw r1.wd hp, r1.sl.ext ex⟩ (hv.ext ex) ?_
      exact KR.mono (KR.bind k) (fun ρ' hρ σ' _ r' => hρ σ' (g1.raw p (.tup us)) (e1.trans ex) r') fun _ _ z => z
    · exact k.elim
/-! ### a, b = e, f where the stores run backwards -/
theorem slk_nil : ∀ p ∈ ([] : List (Nat × Str)), X.N[p.1]? = some p.2 ∧ X.env.scope.names.lookup p.2 = some .local := fun p hp => by cases hp
theorem slk_cons {i : Nat} {x : Str} {l : List (Nat × Str)} (h1 : X.N[i]? = some x) (h2 : X.env.scope.names.lookup x = some .local) (h : ∀ p ∈ l, X.N[p.1]? = some p.2 ∧ X.env.scope.names.lookup p.2 = some .local) : ∀ p ∈ (i, x) :: l, X.N[p.1]? = some p.2 ∧ X.env.scope.names.lookup p.2 = some .local := fun p hp => by
  rcases List.mem_cons.mp hp with e | e
  · rw [e]; exact ⟨h1, h2⟩
  · exact h p e
def setsL (σ : L2.St) : List (Nat × Str) → List V → L2.St
  | p :: l, v :: vs => setsL (σ.set p.1 (some v)) l vs
  | _, _ => σ
def setsV (ρ : Slots) : List Nat → List Vd → Slots
  | i :: l, v :: vs => setsV (ρ.set i (some v)) l vs
  | _, _ => ρ
theorem asg_order {pins : List (Addr × Obj)} {H : Hp} (hN : X.N.Nodup) : ∀ {l : List (Nat × Str)} {ws : List V} {us : List Value} {σ : L2.St} {s : Shared}, (∀ p ∈ l, X.N[p.1]? = some p.2 ∧ X.env.scope.names.lookup p.2 = some .local) → Vals ws us → l.length = ws.length →
    Inv X pins σ H s → wpAny (model X.prog X.w) X.A (assignInOrder (l.map fun p v => bindName X.env p.2 v) us) (fun _ s' => Inv X pins (setsL σ l ws) H s') X.xe s
  | [], ws, us, σ, s, h, r, hl, I => assignInOrder_nil (by
      have : ws = [] := List.eq_nil_of_length_eq_zero hl.symm
      subst this
      exact I)
  | p :: l, [], us, σ, s, h, r, hl, I => absurd hl (by simp)
  | p :: l, w :: ws, us, σ, s, h, r, hl, I => by
    cases r with
    | cons r1 r2 =>
      obtain ⟨h1, h2⟩ := h p List.mem_cons_self
      exact assignInOrder_cons (wpAny_bindName (store_ok I hN h1 (.inl h2) r1 (fun s2 I2 => asg_order hN (fun q hq => h q (List.mem_cons_of_mem _ hq)) r2 (by simpa using hl) I2) (.inr h2)))
theorem vals_rev {xs : List V} {us : List Value} (h : Vals xs us) : Vals xs.reverse us.reverse := by
  induction h with
  | nil => exact .nil
  | cons a b ih => rw [List.reverse_cons, List.reverse_cons]; exact ih.append (.cons a .nil)
theorem ps_asgS {ts es : List Expr} {k1 k2 : Nat} {ta : TA} {sl : List (Nat × Str)} {p1 p2 pos : Pos} (hc : X.calm = true) (hN : X.N.Nodup) (ha : PA X es ta) (hsl : ∀ p ∈ sl, X.N[p.1]? = some p.2 ∧ X.env.scope.names.lookup p.2 = some .local)
    (hs : swapsWithSole [.Tuple ts k1 p1] (.Tuple es k2 p2) pos.line X.env = pure false) (hw : swappedStores [.Tuple ts k1 p1] (.Tuple es k2 p2) X.env = pure (some (sl.map (·.2)))) :
    PS X (.Assign [.Tuple ts k1 p1] (.Tuple es k2 p2) pos) (fun D σ H => tTup ta σ H fun v H1 => ∃ a xs, v = .ref a ∧ H1 a = some (.tup xs) ∧ xs.length = sl.length ∧ D.nx (setsL σ sl.reverse xs.reverse) H1) := by
  refine ⟨fun pins s σ H D I h => ?_⟩
  refine Assign_Tuple_swapped (names := sl.map (·.2)) (thn ((pe_tup ha).run pins s σ H _ I h) fun u s1 ⟨v, H1, I1, r1, a, xs, e, hq, hl, q⟩ => ?_) hs hw
  subst e
  cases r1
  obtain ⟨its, rv, p, hz⟩ := I1.tuple (.inl (.inl hq))
  have hn : (sl.map (·.2)).length = its.toArray.size := by rw [List.length_map, List.size_toArray, ← rv.length, hl]
  rw [hn]
  refine unpackItems_tuple (I.ok.hd hc) (show s1.heap.IsTuple a its.toArray from p) fun h' hx => ?_
  have I2 : Inv X pins σ H1 { s1 with heap := h' } := I1.kept (t' := s1.toks) fun b o e => hx b o (Nat.ne_of_lt (Heap.lt_size e)) e
  have e1 : ((sl.map (·.2)).reverse.map fun n => bindName X.env n) = (sl.reverse.map fun p v => bindName X.env p.2 v) := by
    rw [← List.map_reverse, List.map_map]; rfl
  rw [e1]
  exact thn (asg_order hN (ws := xs.reverse) (us := its.reverse) (l := sl.reverse) (σ := σ) (fun p hp => hsl p (List.mem_reverse.mp hp)) (vals_rev rv) (by rw [List.length_reverse, List.length_reverse, hl]) I2) fun _ s3 I3 => ⟨_, H1, I3, q⟩
theorem HasVL.rev {K : PySem.W.Frag} {g : Gh} {ds : List Vd} {xs : List V} (a : HasVL K g ds xs) : HasVL K g ds.reverse xs.reverse := by
  refine ⟨by simp [a.1], fun i d v hd hv => ?_⟩
  obtain ⟨h1, e1⟩ := List.getElem?_eq_some_iff.mp hd
  obtain ⟨h2, e2⟩ := List.getElem?_eq_some_iff.mp hv
  rw [List.getElem_reverse] at e1 e2
  have h3 : i < ds.length := by simpa using h1
  have h4 : i < xs.length := by simpa using h2
  refine a.2 (ds.length - 1 - i) d v ?_ ?_
  · rw [List.getElem?_eq_getElem (by omega), e1]
  · have e : ds.length - 1 - i = xs.length - 1 - i := by rw [a.1]
    rw [e, List.getElem?_eq_getElem (by omega), e2]
theorem sl_sets {K : PySem.W.Frag} {g : Gh} : ∀ {l : List (Nat × Str)} {ds : List Vd} {vs : List V} {ρ : Slots} {σ : L2.St}, Sl K g ρ σ → HasVL K g ds vs → Sl K g (setsV ρ (l.map (·.1)) ds) (setsL σ l vs)
  | [], ds, vs, ρ, σ, h, hv => h
  | p :: l, [], vs, ρ, σ, h, hv => by rw [hv.nil_inv]; exact h
  | p :: l, d :: ds, vs, ρ, σ, h, hv => by
    obtain ⟨v, r, rfl, h1, h2⟩ := hv.uncons
    exact sl_sets (l := l) (ρ := ρ.set p.1 (some d)) (σ := σ.set p.1 (some v)) (h.set h1 p.1) h2
def sAsgS (fa : FA) (is : List Nat) : FS := fun ρ st => liftS ρ (fa ρ st) fun a => if a.1.length = is.length ∧ a.1.length ≤ LIM then .ok (.nx, setsV ρ is.reverse a.1.reverse, a.2) else .bad
theorem vs_asgS {ts es : List Expr} {k1 k2 : Nat} {fa : FA} {sl : List (Nat × Str)} {is : List Nat} {p1 p2 pos : Pos} (hc : X.calm = true) (hN : X.N.Nodup) (ha : VA X W es fa) (hsl : ∀ p ∈ sl, X.N[p.1]? = some p.2 ∧ X.env.scope.names.lookup p.2 = some .local) (his : sl.map (·.1) = is := by rfl)
    (hs : swapsWithSole [.Tuple ts k1 p1] (.Tuple es k2 p2) pos.line X.env = pure false := by rfl) (hw : swappedStores [.Tuple ts k1 p1] (.Tuple es k2 p2) X.env = pure (some (sl.map (·.2))) := by rfl) :
    VS X W (.Assign [.Tuple ts k1 p1] (.Tuple es k2 p2) pos) (sAsgS fa is) := by
  obtain ⟨t, pa, run⟩ := ha
  subst his
  refine ⟨_, ps_asgS hc hN pa hsl hs hw, fun ρ st σ g D rel k => ?_⟩
  refine run ρ st σ g _ rel ?_
  unfold sAsgS at k
  cases hf : fa ρ st with
  | bad => rw [hf] at k; exact k.elim
  | exc m s => rw [hf] at k; exact fun g1 e r => k σ g1 e r
  | ok a =>
    rw [hf] at k
    obtain ⟨ds, st1⟩ := a
    simp only [liftS_ok] at k
    split at k
    · rename_i hl
      intro us g1 e1 r1 hv
      refine ⟨by rw [lim_eq, hv.1]; exact hl.2, fun p hp => ?_⟩
      refine ⟨p, us, rfl, upd_same, by rw [hv.1, hl.1, List.length_map], ?_⟩
      have ex := ext_raw (o := .tup us) hp
      refine k _ (g1.raw p (.tup us)) (e1.trans ex) ⟨wd_raw r1.wd hp, ?_⟩
      have := sl_sets (l := sl.reverse) (r1.sl.ext ex) (hv.ext ex).rev
      rw [List.map_reverse] at this
      exact this
    · exact k.elim
end
end VL

namespace VL
open PySem PySem.Spec PyProof.Rows L2
section
variable {X : Cx} {W : Wish}
theorem room65 {k : Nat} {A : Around} (r : Room k A) : A.units + 65 < cLine := by have := r.un; omega
/-! ### products -/
noncomputable instance (i j : Int) : Decidable (PySem.IntMulOk i j) := Classical.propDecidable _
noncomputable def mulP : PyData → PyData → R PyData
  | .int i, .int j => if PySem.IntMulOk i j then .ok (.int (i * j)) else .bad
  | .tuple l, .int k => if l ≠ [] ∧ 2 ≤ k ∧ k ≤ 1000 ∧ l.length ≤ 1000 then .ok (.tuple (List.replicate k.toNat l).flatten) else .bad
  | _, _ => .bad
theorem op_mulI : OpR X (binaryOp .Mult) (rI PySem.IntMulOk fun i j => .int (i * j)) := opI fun _ _ _ _ _ _ _ hc q => mul_int q hc
theorem ov_mul : OpV X W (binaryOp .Mult) mulP := by
  refine ⟨_, opR_or op_mulI op_repT, fun ρ st σ g x y v u Q rel hx hy k => ?_⟩
  cases x with
  | int i =>
    cases y with
    | int j =>
      simp only [mulP] at k
      split at k
      · rename_i hc
        exact .inl ⟨i, j, hx.int, hy.int, hc, okP_fin rel (.int _) k⟩
      · exact k.elim
    | _ => exact k.elim
  | tuple l =>
    cases y with
    | int j =>
      simp only [mulP] at k
      split at k
      · rename_i hc
        obtain ⟨a, xs, rfl, s, h⟩ := hx.tupF
        refine .inr ⟨a, j, xs, rfl, hy.int, seqT_mono rel.wd.sub (.inl (.inl s)), fun z => hc.1 ?_, hc.2.1, hc.2.2.1, by rw [h.1]; exact hc.2.2.2, okP_newT rel (h.flat_rep _) k⟩
        subst z
        exact List.eq_nil_of_length_eq_zero h.1.symm
      · exact k.elim
    | _ => exact k.elim
  | _ => cases y <;> exact k.elim
/-- a fresh list, many times -/
def nRep (f : FN) (h : FE) : FN := fun ρ st => f ρ st >>= fun a => h ρ a.2 >>= fun b => match a.1, b.1 with
  | .lst l, .p (.int k) => if -(2 ^ 63) ≤ k ∧ k < 2 ^ 63 ∧ l.length * k.toNat ≤ LIM then .ok (.lst (List.replicate k.toNat l).flatten, b.2) else .bad
  | _, _ => .bad
theorem vn_rep {a b : Expr} {f : FN} {h : FE} {pos : Pos} (ha : VN X W a f) (hb : VE X W b h) : VN X W (.BinOp a .Mult b pos) (nRep f h) := by
  obtain ⟨t, pe, run⟩ := ha
  obtain ⟨u, pu, run2⟩ := hb.run
  refine ⟨_, pe_op op_rep pe pu, fun ρ st σ g Q rel k => ?_⟩
  refine run ρ st σ g _ rel (KR.mono (KR.bind k) (fun a ha p o g' e r' hp hH hF hA hn => ?_) fun n s hn => hn)
  obtain ⟨ob, st1⟩ := a
  refine run2 ρ st1 σ g' _ (okN X.K ρ σ Q) _ okN.goes r' (KR.mono ha (fun b hb => okN.goes g g' b e hb) fun n s hn => hn.ext e) fun d st2 v g2 e2 r2 h2 k2 => ?_
  cases ob with
  | lst l =>
    cases d with
    | loc _ => exact k2.elim
    | p d =>
      cases d with
      | int m =>
        simp only at k2
        split at k2
        · rename_i hc
          obtain ⟨xs, rfl, hl⟩ := hn
          have hl2 := hl.mono e2.frz
          refine ⟨p, m, xs, rfl, Has.int_inv h2, e2.keep p _ hH (fun _ z => by cases z) hA, hc.1, hc.2.1, by rw [hl.1, lim_eq]; exact hc.2.2, fun q hq => ?_⟩
          exact okN_new r2 k2 hq ⟨_, rfl, hl2.flat_rep _⟩
        · exact k2.elim
      | _ => exact k2.elim
  | dct _ _ => exact k2.elim
  | fz _ => exact k2.elim
/-! ### more of op= -/
theorem iv_of {op : Operator} {C : Int → Int → Prop} [∀ i j, Decidable (C i j)] {gd : Int → Int → Int} (h : OpR X (inplaceOp op) (rI C fun i j => .int (gd i j))) : IpV X op (intP C fun i j => .int (gd i j)) := by
  refine ⟨_, h, fun ρ st σ g x y v u Q rel hx hy k => ?_⟩
  cases x with
  | int i =>
    cases y with
    | int j =>
      simp only [intP] at k
      split at k
      · rename_i hc
        exact ⟨i, j, hx.int, hy.int, hc, k _ g (Ext.refl g) rel (.int _)⟩
      · exact k.elim
    | _ => exact k.elim
  | _ => cases y <;> exact k.elim
end
/-! ### the law's end -/
theorem sp_end {K : PySem.W.Frag} {H : Hp} {a : Addr} {ns : List Int} {m : FM} {E : XK} {W : XK → Str → Hp → Prop} (hS : SqL K H a (ns.map V.int)) (hT : ∀ p ∈ tabsOf K, H p.2 = some (.tbl #[])) (h : ∃ st', m [.p (.list (ns.map .int))] [] = .ok (.p (.bool true), st')) : spV K W 1 m [.ref a] H (fun v _ => v = .bl true) E := by
  obtain ⟨st', h⟩ := h
  have hF : ∀ b o, (match H b with | some (.tbl _) => none | x => x) = some o → H b = some o := fun b o e => by
    split at e
    · cases e
    · exact e
  refine ⟨rfl, [.p (.list (ns.map .int))], [], ⟨fun b => match H b with | some (.tbl _) => none | x => x, [], H⟩, rfl, ⟨fun b o e => hF b o e, List.nodup_nil, rfl, fun a h => by simp at h, fun k a ob h => by simp at h, fun p hp => ⟨⟨#[], hT p hp, by first | trivial | exact True.intro | simp [TriplesOk]⟩, ?_, by simp⟩⟩, ?_, ?_⟩
  · show (match H p.2 with | some (.tbl _) => none | x => x) = none
    rw [hT p hp]
  · refine .cons (show Has K _ (.list (ns.map .int)) (.ref a) from .lst' ?_ (hasL_of_ints ns)) .nil
    rcases hS with (hS | ⟨o, hS⟩) | hS
    · exact .inl (.inl (by show (match H a with | some (.tbl _) => none | x => x) = _; rw [hS]))
    · exact .inl (.inr ⟨o, by show (match H a with | some (.tbl _) => none | x => x) = _; rw [hS]⟩)
    · exact .inr hS
  · rw [h]
    exact fun v g' e w hv => Has.bl_inv hv
end VL

/-! generator expressions whose elements are run as bodies -/
namespace VL
open PySem PySem.Spec PyProof.Rows L2
theorem over_genL {A : Around} {e : Expr} {g : List Comprehension} {sc : Scope} {p : Pos} {it acc : Value} {env : Env} : A.over (.compLoop (.GeneratorExp e g sc p) 0 it acc env) [] = A.deeper env := by
  first
    | rfl
    | (obtain ⟨hd, d, fr, gs, u⟩ := A; simp [Around.over, Around.deeper, marksOver, frameCount, unitsOf, envsOf, guardsOf, pushEnvs, pushGuards, Code.envs, Code.env?, Code.isFrame, Code.guards, Code.isGuard, Code.weight, Code.frames, Code.isCreation, Code.isCaller, Code.cUnits])
theorem over_genS {A : Around} {e : Expr} {g : List Comprehension} {sc : Scope} {p : Pos} {it acc : Value} {env : Env} : A.over (.compStart (.GeneratorExp e g sc p) 0 it acc env) [] = A.deeper env := by
  first
    | rfl
    | (obtain ⟨hd, d, fr, gs, u⟩ := A; simp [Around.over, Around.deeper, marksOver, frameCount, unitsOf, envsOf, guardsOf, pushEnvs, pushGuards, Code.envs, Code.env?, Code.isFrame, Code.guards, Code.isGuard, Code.weight, Code.frames, Code.isCreation, Code.isCaller, Code.cUnits])
/-- the context of a generator expression's body -/
abbrev genX (X : Cx) (A : Around) (s : Shared) (H : Hp) (env : Env) (fp : List Addr) : Cx := { X with A := A.deeper env, s_0 := s, H_0 := H, env := env, outer := X.stack, stack := env :: X.stack, ex := fp, fn := fun _ => false, pn := [], xe := fun _ _ => False }
section
variable {X : Cx} {pins : List (Addr × Obj)} {σ : L2.St} {H : Hp} {s : Shared}
theorem gen_start {scope : Scope} {own : List (Str × Nat)} {fp : List Addr} {A : Around} {code it : Value} {h' : Heap} {o : Obj} {G : Array GenState} {tk : Nat} (I : Inv X pins σ H s) (ok : BlkOk X.N X.env.scope scope own) (hcell : ∀ y ∈ scope.names, y.2 ≠ .cell) (hN : X.N.Nodup)
    (hfp : ∀ b ∈ fp, FpOk X pins H b ∧ b < s.heap.objs.size) (hA : A.handled = none) (hAf : A.frames = some X.stack)
    (hn : h'.Ns s.heap.objs.size (fun y => if y = (".0" : Str) then some it else none)) (hs : Heap.SameBut s.heap.objs.size (s.heap.push { cls := .type "frame", data := .dict #[] }) h') (hG : AllBare G) (ho : ∀ v, o.data ≠ .cell v) (hof : o.isFreed = false) :
    Inv (genX X A s H (genEnv scope (cloFrom X.env.cells scope.names []) s.heap.objs.size code builtinsNs X.env) fp) [(h'.objs.size, o)] (wipe σ (own.map (·.2))) H { s with gens := G, toks := tk, heap := h'.push o } := by
  have hfree : ∀ y ∈ scope.names, y.2 = .free → ∃ c, X.env.cells.lookup y.1 = some c := fun y hy e => by
    rcases ok.free y hy e with k | k
    · exact I.ok.has _ (.inl k)
    · exact I.ok.has _ (.inr k)
  have sz : h'.objs.size = s.heap.objs.size + 1 := by rw [hs.1, Heap.size_push]
  have kp0 : ∀ b o, s.heap.get? b = some o → h'.get? b = some o := fun b o e => hs.extBut b o (Nat.ne_of_lt (Heap.lt_size e)) (Heap.get?_push_of_some _ e)
  have kp : ∀ b u, s.heap.get? b = some u → (h'.push o).get? b = some u := fun b u e => Heap.get?_push_of_some _ (kp0 b u e)
  have cm : ∀ {y c}, (y, c) ∈ cloFrom X.env.cells scope.names [] → X.env.cells.lookup y = some c ∧ c < s.heap.objs.size := fun {y c} hm => by
    rcases cloFrom_mem hm with hm | ⟨h1, rfl⟩
    · cases hm
    · obtain ⟨c, hc⟩ := hfree _ h1 rfl
      rw [hc]
      obtain ⟨w, z⟩ := I.cell _ _ hc
      exact ⟨rfl, z.lt⟩
  have mem : ∀ {y c}, (cloFrom X.env.cells scope.names []).lookup y = some c → X.env.cells.lookup y = some c ∧ c < s.heap.objs.size := fun {y c} e => cm (PySem.mem_of_lookup e)
  have look : ∀ {y}, scope.names.lookup y = some .free → ∃ c, (cloFrom X.env.cells scope.names []).lookup y = some c ∧ X.env.cells.lookup y = some c := fun {y} hl => by
    have hy : (y, NameKind.free) ∈ scope.names := PySem.mem_of_lookup hl
    obtain ⟨c', e'⟩ := mem_lookup (cloFrom_has (cells := X.env.cells) (acc := []) hy)
    exact ⟨c', e', (mem e').1⟩
  have okB : (genX X A s H (genEnv scope (cloFrom X.env.cells scope.names []) s.heap.objs.size code builtinsNs X.env) fp).Ok := by
    refine ⟨I.ok.mod, ok.kind, I.ok.glob, rfl, Nat.le_refl _, fun y z c e1 e2 => I.ok.inj y z c (mem e1).1 (mem e2).1, fun y hy => ?_, fun y c z e => absurd z (by simp), fun _ => hA, ?_, .inr ⟨rfl, rfl⟩, fun b hb => ⟨?_, fun y c e z => ?_⟩, I.bs, Nat.le_trans I.ok.bsz I.sz, fun b o e hb => ?_, fun b hb z => ?_, I.stack, I.stkFree⟩
    · rcases hy with hy | hy
      · exact absurd rfl (hcell _ (PySem.mem_of_lookup (show scope.names.lookup y = some .cell from hy)))
      · obtain ⟨c, h1, _⟩ := look (show scope.names.lookup y = some .free from hy)
        exact ⟨c, h1⟩
    · show (A.deeper _).frames = _
      unfold Around.deeper
      simp only [hAf, Option.map_some]
    · show b ≠ s.heap.objs.size
      exact Nat.ne_of_lt (hfp b hb).2
    · exact (hfp b hb).1.2.2.2.2.1 y c (mem (show (cloFrom X.env.cells scope.names []).lookup y = some c from e)).1 z
    · rcases (hfp b hb).1.2.2.2.1 with z | z
      · exact I.ok.noex b o e z
      · exact absurd (Nat.lt_of_lt_of_le (Heap.lt_size e) (Nat.le_trans I.ok.bsz z)) (Nat.lt_irrefl _)
    · rcases List.mem_cons.mp (I.stkSub b z) with z | z
      · exact (hfp b hb).1.2.1 z
      · exact (hfp b hb).1.2.2.1 z
  refine ⟨okB, rfl, hG, Un.kept kp, ⟨_, hn.push _, fun i y av e1 e2 e3 => ?_⟩, fun y c e => ?_, ?_, fun y c e => ?_, fun p hp => ?_, I.hok.kept kp, by rw [wipe_length]; exact I.len⟩
  · obtain ⟨e2, hne⟩ := wipe_some e2
    have e3 : Vis scope y := e3
    have hfr : scope.names.lookup y = some .free := by
      have no : ∀ k, scope.names.lookup y = some k → ¬ (k = .local ∨ k = .cell) := fun k hk hh => by
        rcases ok.own _ (PySem.mem_of_lookup hk) hh with e' | e'
        · obtain ⟨p, hp, hpy⟩ := List.mem_map.mp e'
          have e3 := ok.ix p hp
          have : p.1 = y := hpy
          rw [this] at e3
          exact hne (List.mem_map.mpr ⟨p, hp, nodup_ix hN e3 e1⟩)
        · exact e' (List.mem_of_getElem? e1)
      rcases e3 with e3 | e3 | e3
      · exact absurd (.inl rfl) (no _ e3)
      · exact absurd (.inr rfl) (no _ e3)
      · exact e3
    obtain ⟨m, hn, hl⟩ := I.loc
    have hvis : Vis X.env.scope y := (ok.free _ (PySem.mem_of_lookup hfr) rfl).elim (fun k => .inr (.inl k)) (fun k => .inr (.inr k))
    obtain ⟨w, r, q⟩ := hl i y av e1 e2 hvis
    refine ⟨w, r, .inr ⟨.inr hfr, ?_⟩⟩
    obtain ⟨c, h1, h2⟩ := look hfr
    rcases q with ⟨k, _⟩ | ⟨_, c', e', z⟩
    · have k : X.env.scope.names.lookup y = some .local := k
      rcases ok.free _ (PySem.mem_of_lookup hfr) rfl with k' | k' <;> rw [show X.env.scope.names.lookup y = _ from k'] at k <;> cases k
    · rw [h2] at e'; cases e'
      exact ⟨c, h1, z.keeps kp⟩
  · obtain ⟨h1, _⟩ := mem (show (cloFrom X.env.cells scope.names []).lookup y = some c from e)
    obtain ⟨w, z⟩ := I.cell y c h1
    exact ⟨w, z.keeps kp⟩
  · exact I.hok.fresh (Nat.le_refl _)
  · obtain ⟨h1, _⟩ := mem (show (cloFrom X.env.cells scope.names []).lookup y = some c from e)
    exact I.freeC y c h1
  · have e : p = (h'.objs.size, o) := by
      have hp : p ∈ ([] : List (Addr × Obj)) ++ [(h'.objs.size, o)] := hp
      simpa using hp
    subst e
    refine ⟨Heap.get?_push_size _ hof, I.hok.fresh (by show s.heap.objs.size ≤ h'.objs.size; rw [sz]; exact Nat.le_succ _), by show h'.objs.size ≠ s.heap.objs.size; rw [sz]; exact Nat.succ_ne_self _, fun z => ?_, ho⟩
    have f := I.fpOk (b := h'.objs.size) (by rw [sz]; exact Nat.le_succ _) (I.hok.fresh (by rw [sz]; exact Nat.le_succ _))
    rcases List.mem_cons.mp (I.stkSub _ z) with z | z
    · exact f.2.1 z
    · exact f.2.2.1 z
theorem inv_gens {h' : Heap} {G : Array GenState} {t : Nat} {d : Drawn} (I : Inv X pins σ H s) (kp : ∀ b o, s.heap.get? b = some o → h'.get? b = some o) (hG : AllBare G) : Inv X pins σ H { s with heap := h', gens := G, toks := t, drawn := d } :=
  I.call (h' := h') (g' := G) (d' := d) (t' := t) (ch := []) (Un.kept kp) (I.hok.kept kp) hG (fun b z => absurd z (by simp))
/-- what the sleeping generator has handed out; sb: the answer at which the consumer stops -/
def GY1 (X : Cx) (pins : List (Addr × Obj)) (σ : L2.St) (a : Addr) (g : Nat) (sb : Bool) (QT : Hp → Prop) : Protocol := fun _ _ v s kap =>
  ∃ b H, v = .bool b ∧ Inv X pins σ H s ∧ s.heap.IsGen a g ∧ (b = sb → QT H) ∧ (b ≠ sb → ∀ s'' : Shared, s''.heap = s.heap → s''.os = s.os → AllBare s''.gens → kap (.send .none) s'')
def GR1 (X : Cx) (pins : List (Addr × Obj)) (σ : L2.St) (QF : Hp → Prop) : GenEnd := fun n s₀ r s₁ => r = .ok .next ∧ ∃ H, Inv X pins σ H s₁ ∧ QF H
theorem all_loop {A : Around} {R : Result → Shared → Prop} {a : Addr} {g : Nat} {QT QF : Hp → Prop} (hh : A.handled = none) (hd : A.depth < recursionLimit)
    (hend : ∀ H s', Inv X pins σ H s' → QF H → R (.ok (.ret (.bool true))) s') (hstop : ∀ H s', Inv X pins σ H s' → QT H → R (.ok (.ret (.bool false))) s') :
    ∀ (m : Nat) (s : Shared), s.heap.IsGen a g → s.heap.NoLimit → (∃ gs, s.gens[g]? = some gs ∧ gs.Goes (model X.prog X.w) A.in1.in1 (GR1 X pins σ QF) (GY1 X pins σ a g false QT) m (.send .none) (s.setGen g .running)) →
      codeAny (model X.prog X.w) A (.builtin "all.loop" ⟨[.ref a], []⟩) R s := by
  intro m
  induction m with
  | zero =>
    intro s hg hl ⟨gs, hgs, hgo⟩
    refine codeAny_builtin F.entry_all_loop ?_
    rw [Around.under_plainId F.plain_all_loop _]
    show wpAny _ A.in1 (pyNext (.ref a) >>= _) _ _ s
    refine wpAny_bind (wpAny_pyNext_genexpQ (A := A.in1) (P := fun _ _ s₁ => ∃ H, Inv X pins σ H s₁ ∧ QF H) hh hl hd hg hgs hgo (fun v s₁ gs' hb hv => ?_) (fun s₁ hp h' hk => ?_))
    · obtain ⟨b, H1, rfl, I1, hg1, q1, q2⟩ := hv
      cases b with
      | true => exact (q2 (by decide) s₁ rfl rfl I1.bare).elim
      | false =>
        refine wpAny_bind (wpAny_holding (wpAny_truthy_bool ?_))
        refine wpAny_bind (wpAny_letGo ?_)
        simp only [Bool.false_eq_true, if_false]
        exact wpAny_bind (wpAny_rule (wpAny_pure (hstop H1 _ (inv_gens I1 (fun _ _ e => e) (allBare_setGen I1.bare hb)) (q1 rfl))))
    · obtain ⟨H1, I1, q⟩ := hp
      exact wpAny_bind (wpAny_rule (wpAny_pure (hend H1 _ (inv_gens (s := s₁) (h' := h') (G := (s₁.setGen g .finished).gens) (t := s₁.toks) (d := s₁.drawn) I1 hk (allBare_setGen I1.bare rfl)) q)))
  | succ m ih =>
    intro s hg hl ⟨gs, hgs, hgo⟩
    have hgl : g < s.gens.size := (Array.getElem?_eq_some_iff.mp hgs).1
    refine codeAny_builtin F.entry_all_loop ?_
    rw [Around.under_plainId F.plain_all_loop _]
    show wpAny _ A.in1 (pyNext (.ref a) >>= _) _ _ s
    refine wpAny_bind (GenW.wpAny_gsz (n := g + 1) hgl (wpAny_pyNext_genexpQ (A := A.in1) (P := fun _ _ s₁ => ∃ H, Inv X pins σ H s₁ ∧ QF H) hh hl hd hg hgs hgo (fun v s₁ gs' hb hv => ?_) (fun s₁ hp h' hk => ?_)))
    · intro hsz
      obtain ⟨b, H1, rfl, I1, hg1, q1, q2⟩ := hv
      cases b with
      | true =>
        refine wpAny_bind (wpAny_holding (wpAny_truthy_bool ?_))
        refine wpAny_bind (wpAny_letGo ?_)
        simp only [if_true]
        have hsz1 : g < s₁.gens.size := by
          have q : (s₁.setGen g gs').gens.size = s₁.gens.size := GenW.setGen_size _ _ _
          have hsz' : g + 1 ≤ (s₁.setGen g gs').gens.size := hsz
          omega
        refine wpAny_pure ⟨plainId_quiet F.plain_all_loop _, ih (s₁.setGen g gs') hg1 I1.nolimit ⟨gs', setGen_at hsz1, ?_⟩⟩
        exact q2 (by decide) _ rfl rfl (allBare_setGen (allBare_setGen I1.bare hb) rfl)
      | false =>
        refine wpAny_bind (wpAny_holding (wpAny_truthy_bool ?_))
        refine wpAny_bind (wpAny_letGo ?_)
        simp only [Bool.false_eq_true, if_false]
        exact wpAny_bind (wpAny_rule (wpAny_pure (hstop H1 _ (inv_gens I1 (fun _ _ e => e) (allBare_setGen I1.bare hb)) (q1 rfl))))
    · intro hsz
      obtain ⟨H1, I1, q⟩ := hp
      exact wpAny_bind (wpAny_rule (wpAny_pure (hend H1 _ (inv_gens (s := s₁) (h' := h') (G := (s₁.setGen g .finished).gens) (t := s₁.toks) (d := s₁.drawn) I1 hk (allBare_setGen I1.bare rfl)) q)))
theorem any_loop {A : Around} {R : Result → Shared → Prop} {a : Addr} {g : Nat} {QT QF : Hp → Prop} (hh : A.handled = none) (hd : A.depth < recursionLimit)
    (hend : ∀ H s', Inv X pins σ H s' → QF H → R (.ok (.ret (.bool false))) s') (hstop : ∀ H s', Inv X pins σ H s' → QT H → R (.ok (.ret (.bool true))) s') :
    ∀ (m : Nat) (s : Shared), s.heap.IsGen a g → s.heap.NoLimit → (∃ gs, s.gens[g]? = some gs ∧ gs.Goes (model X.prog X.w) A.in1.in1 (GR1 X pins σ QF) (GY1 X pins σ a g true QT) m (.send .none) (s.setGen g .running)) →
      codeAny (model X.prog X.w) A (.builtin "any.loop" ⟨[.ref a], []⟩) R s := by
  intro m
  induction m with
  | zero =>
    intro s hg hl ⟨gs, hgs, hgo⟩
    refine codeAny_builtin F.entry_any_loop ?_
    rw [Around.under_plainId F.plain_any_loop _]
    show wpAny _ A.in1 (pyNext (.ref a) >>= _) _ _ s
    refine wpAny_bind (wpAny_pyNext_genexpQ (A := A.in1) (P := fun _ _ s₁ => ∃ H, Inv X pins σ H s₁ ∧ QF H) hh hl hd hg hgs hgo (fun v s₁ gs' hb hv => ?_) (fun s₁ hp h' hk => ?_))
    · obtain ⟨b, H1, rfl, I1, hg1, q1, q2⟩ := hv
      cases b with
      | false => exact (q2 (by decide) s₁ rfl rfl I1.bare).elim
      | true =>
        refine wpAny_bind (wpAny_holding (wpAny_truthy_bool ?_))
        refine wpAny_bind (wpAny_letGo ?_)
        simp only [if_true]
        exact wpAny_bind (wpAny_rule (wpAny_pure (hstop H1 _ (inv_gens I1 (fun _ _ e => e) (allBare_setGen I1.bare hb)) (q1 rfl))))
    · obtain ⟨H1, I1, q⟩ := hp
      exact wpAny_bind (wpAny_rule (wpAny_pure (hend H1 _ (inv_gens (s := s₁) (h' := h') (G := (s₁.setGen g .finished).gens) (t := s₁.toks) (d := s₁.drawn) I1 hk (allBare_setGen I1.bare rfl)) q)))
  | succ m ih =>
    intro s hg hl ⟨gs, hgs, hgo⟩
    have hgl : g < s.gens.size := (Array.getElem?_eq_some_iff.mp hgs).1
    refine codeAny_builtin F.entry_any_loop ?_
    rw [Around.under_plainId F.plain_any_loop _]
    show wpAny _ A.in1 (pyNext (.ref a) >>= _) _ _ s
    refine wpAny_bind (GenW.wpAny_gsz (n := g + 1) hgl (wpAny_pyNext_genexpQ (A := A.in1) (P := fun _ _ s₁ => ∃ H, Inv X pins σ H s₁ ∧ QF H) hh hl hd hg hgs hgo (fun v s₁ gs' hb hv => ?_) (fun s₁ hp h' hk => ?_)))
    · intro hsz
      obtain ⟨b, H1, rfl, I1, hg1, q1, q2⟩ := hv
      cases b with
      | false =>
        refine wpAny_bind (wpAny_holding (wpAny_truthy_bool ?_))
        refine wpAny_bind (wpAny_letGo ?_)
        simp only [Bool.false_eq_true, if_false]
        have hsz1 : g < s₁.gens.size := by
          have q : (s₁.setGen g gs').gens.size = s₁.gens.size := GenW.setGen_size _ _ _
          have hsz' : g + 1 ≤ (s₁.setGen g gs').gens.size := hsz
          omega
        refine wpAny_pure ⟨plainId_quiet F.plain_any_loop _, ih (s₁.setGen g gs') hg1 I1.nolimit ⟨gs', setGen_at hsz1, ?_⟩⟩
        exact q2 (by decide) _ rfl rfl (allBare_setGen (allBare_setGen I1.bare hb) rfl)
      | true =>
        refine wpAny_bind (wpAny_holding (wpAny_truthy_bool ?_))
        refine wpAny_bind (wpAny_letGo ?_)
        simp only [if_true]
        exact wpAny_bind (wpAny_rule (wpAny_pure (hstop H1 _ (inv_gens I1 (fun _ _ e => e) (allBare_setGen I1.bare hb)) (q1 rfl))))
    · intro hsz
      obtain ⟨H1, I1, q⟩ := hp
      exact wpAny_bind (wpAny_rule (wpAny_pure (hend H1 _ (inv_gens (s := s₁) (h' := h') (G := (s₁.setGen g .finished).gens) (t := s₁.toks) (d := s₁.drawn) I1 hk (allBare_setGen I1.bare rfl)) q)))

/-- all(..), any(..) of a generator expression. P: the running def's table of codes; sb: the answer at which it stops -/
def tGen (sb : Bool) (P : Addr) (wi : TI) (g : TG) (tt : TT) (te : TE) (vs : List Nat) : TE := fun σ H Q => wi σ H fun J H1 => GxR.TabG H1 P ∧ ∀ H2, GxR.Tabbed P H1 H2 → ∃ W : Nat → Nat → Hp → Prop, (∃ m, W 0 m H2) ∧ ∀ i m H, W i m H →
  (J.stop i H ∧ Q (.bl (!sb)) H) ∨ (J.go i H ∧ ∃ Nx : Hp → Prop, (∀ H', Nx H' → ∃ m', m' < m ∧ W (i + 1) m' H') ∧ ∀ x H', J.yld i H x H' → g x (wipe σ vs) H' fun σ2 H2 => wipe σ2 vs = wipe σ vs ∧ tt σ2 H2 fun b H3 =>
    if b = true then te σ2 H3 fun y H4 => ∃ b, y = .bl b ∧ (b = sb → Q (.bl sb) H4) ∧ (b ≠ sb → Nx H4) else Nx H3)
theorem seg_bindw {M : Model} {A : Around} {R : GenEnd} {Y : Protocol} {n : Nat} {s₀ : Shared} {c : Code} {fs : List Frame} {s : Shared} {α β : Type} {m : Sem α} {K : α → Sem β} {K' : β → Sem PySem.Fin} {H' : Value → Sem PySem.Fin} {gd lv}
    (h : wpAny M (A.over c fs) m (fun a s' => Seg M A R Y n s₀ c ((K a).wrap K' H' gd lv) fs s') (fun _ _ => False) s) : Seg M A R Y n s₀ c ((m >>= K).wrap K' H' gd lv) fs s :=
  seg_bind_wrap (wpAny_mono h (fun _ _ h => h) fun _ _ z => False.elim z)
theorem seg_gen {elt tg iter : Expr} {ifs : List Expr} {scope : Scope} {pos : Pos} {A : Around} {s3 : Shared} {H3 : Hp} {env : Env} {fp : List Addr} {it a : Addr} {gno : Nat} {o : Obj} {tn : Nat → Heap → Prop} {J : It} {g : TG} {tt : TT} {te : TE} {vs : List Nat} {W : Nat → Nat → Hp → Prop} {Q : VK} {sb : Bool}
    (hc : X.calm = true) (I3 : Inv X pins σ H3 s3) (f3 : ∀ b ∈ fp, FpOk X pins H3 b) (T : Turn X.prog X.w X.K tg J fp it tn) (hco : scope.isCoroutine = false) (hes : env.scope = scope) (ho : ∀ v, o.data ≠ .cell v) (hgen : ∀ h : Heap, h.get? a = some o → h.IsGen a gno) (haf : a ∉ fp)
    (pg : PG (genX X A s3 H3 env fp) tg g) (pt : PTs (genX X A s3 H3 env fp) ifs tt) (pe : PE (genX X A s3 H3 env fp) elt te)
    (turn : ∀ i m H, W i m H → (J.stop i H ∧ Q (.bl (!sb)) H) ∨ (J.go i H ∧ ∃ Nx : Hp → Prop, (∀ H', Nx H' → ∃ m', m' < m ∧ W (i + 1) m' H') ∧ ∀ x H', J.yld i H x H' → g x (wipe σ vs) H' fun σ2 H2 => wipe σ2 vs = wipe σ vs ∧ tt σ2 H2 fun b H3 =>
      if b = true then te σ2 H3 fun y H4 => ∃ b, y = .bl b ∧ (b = sb → Q (.bl sb) H4) ∧ (b ≠ sb → Nx H4) else Nx H3)) :
    ∀ (m n : Nat) (s₀ s : Shared), m + 1 ≤ n → (∃ i H, Inv (genX X A s3 H3 env fp) [(a, o)] (wipe σ vs) H s ∧ tn i s.heap ∧ (∀ b ∈ fp, H b = none) ∧ W i m H) →
      Seg (model X.prog X.w) A (GR1 X pins σ fun H => Q (.bl (!sb)) H) (GY1 X pins σ a gno sb fun H => Q (.bl sb) H) n s₀ (.compLoop (.GeneratorExp elt [⟨tg, iter, ifs, 0⟩] scope pos) 0 (.ref it) .none env)
        ((model X.prog X.w).den (.compLoop (.GeneratorExp elt [⟨tg, iter, ifs, 0⟩] scope pos) 0 (.ref it) .none env)) [] s := by
  have out : ∀ {σ' : L2.St} {H' : Hp} {s' : Shared} {ps : List (Addr × Obj)}, Inv (genX X A s3 H3 env fp) ps σ' H' s' → Inv X pins σ H' s' := fun {σ' H' s' ps} I6 =>
    I3.call' (ch := fp) I6.os I6.base I6.hok I6.bare fun b hb => ⟨(f3 b hb).2.2.2.1, (f3 b hb).2.1, (f3 b hb).2.2.2.2.1, (f3 b hb).2.2.2.2.2⟩
  have stat : ∀ {σ' : L2.St} {H' : Hp} {s' : Shared}, Inv (genX X A s3 H3 env fp) [(a, o)] σ' H' s' → (∀ b ∈ fp, H' b = none) → ∀ b ∈ fp, FpOk (genX X A s3 H3 env fp) [(a, o)] H' b := fun {σ' H' s'} I' hn b hb =>
    ⟨hn b hb, (I'.ok.exf b hb).1, I'.ok.exfs b hb, .inl hb, fun x c e => (I'.ok.exf b hb).2 x c e, fun p hp => by
      have hp : p ∈ ([] : List (Addr × Obj)) ++ [(a, o)] := hp
      have : p = (a, o) := by simpa using hp
      rw [this]; exact fun z => haf (by rw [show a = b from z]; exact hb)⟩
  have isgen : ∀ {σ' : L2.St} {H' : Hp} {s' : Shared} {ps : List (Addr × Obj)}, Inv (genX X A s3 H3 env fp) ([(a, o)] ++ ps) σ' H' s' → s'.heap.IsGen a gno := fun {σ' H' s' ps} I' => hgen _ (I'.pin (a, o) (by simp)).1
  intro m
  induction m using Nat.strongRecOn with
  | ind m ih =>
    intro n s₀ s hn ⟨i, H5, I5, st5, n5, w5⟩
    show Seg _ A _ _ _ s₀ _ ((compTurn (.GeneratorExp elt [⟨tg, iter, ifs, 0⟩] scope pos) 0 (.ref it) .none env).onRaise (leaving env)) [] s
    rw [compTurn_gen, Sem.onRaise_eq_wrap]
    refine seg_bindw (wpAny_standAt ?_)
    rcases turn i m H5 w5 with ⟨stop, qq⟩ | ⟨go, Nx, hNx, step⟩
    · have td := T.done (genX X A s3 H3 env fp) rfl rfl rfl hc i [(a, o)] s _ H5 (fun _ _ => False) I5 (stat I5 n5) st5 stop
      refine seg_bindw ?_
      rw [over_genL]
      refine wpAny_mono td (fun r s6 ⟨hr, I6⟩ => ?_) fun _ _ z => z
      subst hr
      exact seg_end (.ok .next) ⟨rfl, H5, out I6, qq⟩
    · have ti := T.item (genX X A s3 H3 env fp) rfl rfl rfl hc i [(a, o)] s _ H5 (fun _ _ => False) I5 (stat I5 n5) st5 go
      refine seg_bindw ?_
      rw [over_genL]
      refine wpAny_mono ti (fun r s6 ⟨u, hr, h6⟩ => ?_) fun _ _ z => z
      subst hr
      refine seg_bindw ?_
      rw [over_genL]
      refine wpAny_mono h6 (fun _ s7 ⟨x, H7, I7, r7, y7, st7, n7⟩ => ?_) fun _ _ z => z
      have I7' := I7.pinned (stat I7 n7) (T.obj _ _ st7)
      refine seg_bindw ?_
      rw [over_genL]
      refine wpAny_mono (pg.run _ s7 _ H7 x u _ I7' r7 (step x H7 y7)) (fun _ s8 ⟨σ8, H8, I8, hw8, q8⟩ => ?_) fun _ _ z => z
      refine seg_bindw ?_
      rw [over_genL]
      refine wpAny_mono (pt.run _ s8 σ8 H8 _ I8 q8) (fun b s9 ⟨H9, I9, q9⟩ => ?_) fun _ _ z => z
      have fin : ∀ {s' : Shared} {H' : Hp}, Inv (genX X A s3 H3 env fp) ([(a, o)] ++ pinsAt fp s7.heap) σ8 H' s' → Nx H' → ∃ m', m' < m ∧ ∃ i H', Inv (genX X A s3 H3 env fp) [(a, o)] (wipe σ vs) H' s' ∧ tn i s'.heap ∧ (∀ b ∈ fp, H' b = none) ∧ W i m' H' := fun {s' H'} I' nx => by
        obtain ⟨m', hm, w'⟩ := hNx H' nx
        have pin' : ∀ b ∈ fp, ∀ o, s7.heap.get? b = some o → s'.heap.get? b = some o ∧ H' b = none := fun b hb o e =>
          let z := I'.pin (b, o) (List.mem_append_right _ (List.mem_append_right _ (mem_pinsAt hb e)))
          ⟨z.1, z.2.1⟩
        have hl : (wipe σ vs).length = σ8.length := by rw [← hw8, wipe_length]
        refine ⟨m', hm, i + 1, H', (I'.unpinned (pins := [(a, o)])).weak hl (fun j v e => ?_), T.keep _ _ _ st7 fun b hb o e => (pin' b hb o e).1, fun b hb => ?_, w'⟩
        · rw [← hw8] at e
          exact (wipe_some e).1
        · obtain ⟨o, e, _⟩ := T.obj _ _ st7 b hb
          exact (pin' b hb o e).2
      cases b with
      | false =>
        simp only [Bool.false_eq_true, if_false] at q9 ⊢
        obtain ⟨m', hm, J'⟩ := fin I9 q9
        exact seg_again rfl (ih m' hm n s₀ s9 (by omega) J')
      | true =>
        simp only [if_true] at q9 ⊢
        have hy : ∀ v, yieldOut env v = yieldValue v := fun v => by simp only [yieldOut, hes, hco, Bool.false_eq_true, if_false]
        simp only [hy]
        rw [Sem.bind_eq_wrap', Sem.bind_eq_wrap', Sem.wrap_wrap, Sem.wrap_wrap]
        refine seg_wrap (wpAny_mono (E := fun _ _ => False) ?_ (fun _ _ h => h) fun _ _ z => False.elim z)
        rw [over_genL]
        refine wpAny_mono (pe.run _ s9 σ8 H9 _ I9 q9) (fun z s10 ⟨yv, H10, I10, r10, b, hb, qt, nx⟩ => ?_) fun _ _ z => z
        subst hb
        cases r10
        obtain ⟨n', rfl⟩ : ∃ n', n = n' + 1 := ⟨n - 1, by omega⟩
        refine seg_at (seg_yield rfl rfl rfl ⟨b, H10, rfl, out I10, isgen I10, qt, fun hb s'' hh ho hG => ?_⟩)
        obtain ⟨m', hm, i', H', I', t', n', w'⟩ := fin I10 (nx hb)
        refine seg_again rfl (ih m' hm _ s'' s'' (by omega) ⟨i', H', ?_, by rw [hh]; exact t', n', w'⟩)
        have := inv_gens (h' := s''.heap) (G := s''.gens) (t := s''.toks) (d := s''.drawn) I' (fun b o e => by rw [hh]; exact e) hG
        have es : ({ s10 with heap := s''.heap, gens := s''.gens, toks := s''.toks, drawn := s''.drawn } : Shared) = s'' := by
          cases s''; simp only at ho; subst ho; rfl
        rw [es] at this
        exact this
theorem seg_genS {elt tg iter : Expr} {ifs : List Expr} {scope : Scope} {pos : Pos} {A : Around} {R : GenEnd} {Y : Protocol} {n : Nat} {s₀ s : Shared} {it : Addr} {tn : Nat → Heap → Prop} {J : It} {fp : List Addr} {env : Env} (T : Turn X.prog X.w X.K tg J fp it tn) (st : tn 0 s.heap)
    (h : Seg (model X.prog X.w) A R Y n s₀ (.compLoop (.GeneratorExp elt [⟨tg, iter, ifs, 0⟩] scope pos) 0 (.ref it) .none env) ((model X.prog X.w).den (.compLoop (.GeneratorExp elt [⟨tg, iter, ifs, 0⟩] scope pos) 0 (.ref it) .none env)) [] s) :
    Seg (model X.prog X.w) A R Y n s₀ (.compStart (.GeneratorExp elt [⟨tg, iter, ifs, 0⟩] scope pos) 0 (.ref it) .none env) ((model X.prog X.w).den (.compStart (.GeneratorExp elt [⟨tg, iter, ifs, 0⟩] scope pos) 0 (.ref it) .none env)) [] s := by
  show Seg _ A _ _ _ s₀ _ ((compStart (.GeneratorExp elt [⟨tg, iter, ifs, 0⟩] scope pos) 0 (.ref it) .none env).onRaise (leaving env)) [] s
  unfold compStart
  rw [Sem.onRaise_eq_wrap]
  show Seg _ A _ _ _ s₀ _ ((ask >>= _).wrap _ _ _ _) [] s
  refine seg_bind_wrap (wpAny_askSetting ?_)
  split
  · exact seg_again rfl h
  · first
      | exact seg_bind_wrap (wpAny_rule (seg_bind_wrap (wpAny_standAt (seg_bind_wrap (T.self _ 0 s _ _ st (seg_again rfl h))))))
      | (refine seg_bind_wrap (wpAny_rule ?_); show Seg _ A _ _ _ s₀ _ ((standAt iter.pos >>= _).wrap _ _ _ _) [] s; exact seg_bind_wrap (wpAny_standAt (seg_bind_wrap (T.self _ 0 s _ _ st (seg_again rfl h)))))
/-- the generator is made; Q': what follows of it -/
theorem gen_made {k : Nat} {elt tg iter : Expr} {ifs : List Expr} {scope : Scope} {own : List (Str × Nat)} {gpos : Pos} {wi : TI} {g : TG} {tt : TT} {te : TE} {c P : Addr} {Q : VK} {Q' : Value → Shared → Prop} {sb : Bool}
    (hr : Room (k + 3) X.A) (hc : X.calm = true) (hN : X.N.Nodup) (TB : GxR.TabB X.base X.mg c P) (hcode : X.env.code = .ref c) (hi : PI X tg iter wi) (ok : BlkOk X.N X.env.scope scope own) (hcell : ∀ y ∈ scope.names, y.2 ≠ .cell) (hdot : scope.names.lookup (".0" : Str) = some NameKind.local) (hco : scope.isCoroutine = false)
    (hpg : ∀ (A : Around) (s : Shared) (H : Hp) (C : Addr) (code : Value) (fp : List Addr), Room k (A.deeper (genEnv scope (cloFrom X.env.cells scope.names []) C code builtinsNs X.env)) → PG (genX X A s H (genEnv scope (cloFrom X.env.cells scope.names []) C code builtinsNs X.env) fp) tg g)
    (hpt : ∀ (A : Around) (s : Shared) (H : Hp) (C : Addr) (code : Value) (fp : List Addr), Room k (A.deeper (genEnv scope (cloFrom X.env.cells scope.names []) C code builtinsNs X.env)) → PTs (genX X A s H (genEnv scope (cloFrom X.env.cells scope.names []) C code builtinsNs X.env) fp) ifs tt)
    (hpe : ∀ (A : Around) (s : Shared) (H : Hp) (C : Addr) (code : Value) (fp : List Addr), Room k (A.deeper (genEnv scope (cloFrom X.env.cells scope.names []) C code builtinsNs X.env)) → PE (genX X A s H (genEnv scope (cloFrom X.env.cells scope.names []) C code builtinsNs X.env) fp) elt te)
    (hs : ∀ v, genFold iter X.env v = pure v) (I : Inv X pins σ H s) (h : tGen sb P wi g tt te (own.map (·.2)) σ H Q)
    (hQ : ∀ (a : Addr) (gno n : Nat) (s5 : Shared), s5.heap.IsGen a gno → s5.heap.NoLimit → (∃ gs, s5.gens[gno]? = some gs ∧ gs.Goes (model X.prog X.w) X.A.in1.in1 (GR1 X pins σ fun H => Q (.bl (!sb)) H) (GY1 X pins σ a gno sb fun H => Q (.bl sb) H) n (.send .none) (s5.setGen gno .running)) → Q' (.ref a) s5) :
    wpAny (model X.prog X.w) X.A (eval (.GeneratorExp elt [⟨tg, iter, ifs, 0⟩] scope gpos) X.env) Q' X.xe s := by
  have hfree : ∀ y ∈ scope.names, y.2 = .free → ∃ c, X.env.cells.lookup y.1 = some c := fun y hy e => by
    rcases ok.free y hy e with k | k
    · exact I.ok.has _ (.inl k)
    · exact I.ok.has _ (.inr k)
  refine wpAny_GeneratorExp_make hco (closure_ok hfree) hcell hdot ok.kind (by have := hr.dp; omega) ?_ hs
  refine thn (hi.run pins s σ H _ I h) fun xv s1 hx => thn hx fun itv s2 h2 => ?_
  obtain ⟨it, fp, tn, J, H2, e, I2, T, st2, f2, ⟨ps, hP, ht⟩, q⟩ := h2
  subst e
  refine ⟨I2.nolimit, ?_⟩
  have hPs : s2.heap.get? P = some { cls := .none, data := .fields ps } := I2.hok P _ hP
  have hPlt : P < s2.heap.objs.size := Heap.lt_size hPs
  have cd : PySem.W.CodeHd s2.heap c P := TB.code.keeps fun b u e => I2.bk b u e
  have Pfp : P ∉ fp := fun z => by rw [(f2 P z).1] at hP; cases hP
  have cont : ∀ (code : Value) (h3 : Heap) (tk : Nat) (more : Array Value), Heap.ExtBut P s2.heap h3 → s2.heap.objs.size ≤ h3.objs.size → h3.get? P = some { cls := .none, data := .fields (ps ++ more) } → TriplesOk (ps ++ more).toList →
      wpAny (model X.prog X.w) X.A (builtinsFor X.env.globals X.env.builtins) (fun bi s₄ =>
        ∀ h', h'.Ns s₄.heap.objs.size (fun y => if y = (".0" : Str) then some (.ref it) else none) → Heap.SameBut s₄.heap.objs.size (s₄.heap.push { cls := .type "frame", data := .dict #[] }) h' →
          Q' (.ref h'.objs.size) { s₄ with
            gens := s₄.gens.push (.fresh (.compStart (.GeneratorExp elt [⟨tg, iter, ifs, 0⟩] scope gpos) 0 (.ref it) .none (genEnv scope (cloFrom X.env.cells scope.names []) s₄.heap.objs.size code bi X.env))),
            toks := s₄.toks + 1 + 1 + 1,
            heap := h'.push { cls := .type "generator", data := .fields #[.int s₄.gens.size 0, .str "<genexpr>" (s₄.toks + 1), .str (X.env.qual ++ "<genexpr>") (s₄.toks + 1 + 1)] } }) X.xe { s2 with heap := h3, toks := tk } := by
    intro code h3 tk more hx hsz hP3 ht3
    obtain ⟨bm, ob, e1, e2, e3, e4, e5, e6, e7, e8⟩ := TB.bm
    have keep3 : ∀ b u, b ≠ P → s2.heap.get? b = some u → h3.get? b = some u := fun b u hb e => hx b u hb e
    have I3 : Inv X pins σ (upd H2 P (.tbl (ps ++ more))) { s2 with heap := h3, toks := tk } := GxR.inv_tab (g' := s2.gens) (d' := s2.drawn) (t' := tk) I2 hP keep3 hP3 I2.bare
    refine wpAny_builtinsFor (m := X.mg) (by rw [I3.ok.glob]; exact I3.mod.glob.keeps I3.bk) e1 e2 (keep3 _ _ e4 (I2.bk _ _ e5)) e6 e7 e8 ?_
    intro h' hn hs'
    obtain ⟨W, ⟨m0, w0⟩, turn⟩ := q (upd H2 P (.tbl (ps ++ more))) ⟨⟨_, upd_same, ht3⟩, fun b hb => upd_ne hb⟩
    have f3 : ∀ b ∈ fp, FpOk X pins (upd H2 P (.tbl (ps ++ more))) b ∧ b < h3.objs.size := fun b hb => by
      have hbP : b ≠ P := fun z => Pfp (z ▸ hb)
      obtain ⟨o, eo, _⟩ := T.obj _ _ st2 b hb
      exact ⟨⟨by rw [upd_ne hbP]; exact (f2 b hb).1, (f2 b hb).2⟩, Nat.lt_of_lt_of_le (Heap.lt_size eo) hsz⟩
    have sz : h'.objs.size = h3.objs.size + 1 := by rw [hs'.1, Heap.size_push]
    generalize hgo : ({ cls := .type "generator", data := .fields #[.int s2.gens.size 0, .str "<genexpr>" (tk + 1), .str (X.env.qual ++ "<genexpr>") (tk + 1 + 1)] } : Obj) = gob
    have hgd : ∀ v, gob.data ≠ .cell v := fun v z => by rw [← hgo] at z; cases z
    have hgf : gob.isFreed = false := by rw [← hgo]; rfl
    have hig : ∀ h : Heap, h.get? h'.objs.size = some gob → h.IsGen h'.objs.size s2.gens.size := fun h e => ⟨_, _, _, e, by rw [← hgo], by rw [← hgo], by rw [← hgo]⟩
    generalize hgs : GenState.fresh (.compStart (.GeneratorExp elt [⟨tg, iter, ifs, 0⟩] scope gpos) 0 (.ref it) .none (genEnv scope (cloFrom X.env.cells scope.names []) h3.objs.size code builtinsNs X.env)) = gs0
    have hsg : (s2.gens.push gs0)[s2.gens.size]? = some gs0 := Array.getElem?_push_size ..
    have hbare : AllBare (s2.gens.push gs0) := I2.bare.push (by rw [← hgs]; rfl)
    have nl : (h'.push gob).NoLimit := by
      refine I3.nolimit.keeps fun b o e => Heap.get?_push_of_some _ (hs'.extBut b o (Nat.ne_of_lt (Heap.lt_size e)) (Heap.get?_push_of_some _ e))
    refine hQ h'.objs.size s2.gens.size (m0 + 1) _ (hig _ (Heap.get?_push_size _ hgf)) nl ⟨gs0, hsg, ?_⟩
    have roomy : Room k (X.A.in1.in1.deeper (genEnv scope (cloFrom X.env.cells scope.names []) h3.objs.size code builtinsNs X.env)) := Room.deeper (Room.in1 (Room.in1 hr)) _
    have I4 := gen_start (A := X.A.in1.in1) (code := code) (it := .ref it) (o := gob) (G := (s2.gens.push gs0).setIfInBounds s2.gens.size .running) (tk := tk + 1 + 1 + 1) I3 ok hcell hN f3 (I3.ok.hd hc) I3.ok.frames hn hs' (by
      have := allBare_setGen (s := { s2 with gens := s2.gens.push gs0 }) (g := s2.gens.size) (x := .running) hbare rfl
      exact this) hgd hgf
    rw [← hgs]
    refine ⟨rfl, seg_genS T ?_ ?_⟩
    · refine T.keep _ _ _ st2 fun b hb o e => ?_
      have hbP : b ≠ P := fun z => Pfp (z ▸ hb)
      have e3 := keep3 b o hbP e
      exact Heap.get?_push_of_some _ (hs'.extBut b o (Nat.ne_of_lt (Heap.lt_size e3)) (Heap.get?_push_of_some _ e3))
    · refine seg_gen (X := X) (fp := fp) (o := gob) hc I3 (fun b hb => (f3 b hb).1) T hco rfl hgd hig (fun z => ?_) (hpg _ _ _ _ _ _ roomy) (hpt _ _ _ _ _ _ roomy) (hpe _ _ _ _ _ _ roomy) turn m0 (m0 + 1) _ _ (Nat.le_refl _) ⟨0, _, ?_, ?_, fun b hb => (f3 b hb).1.1, w0⟩
      · exact absurd (f3 _ z).2 (by rw [sz]; exact Nat.not_lt.mpr (Nat.le_succ _))
      · rw [hgs]; exact I4
      · refine T.keep _ _ _ st2 fun b hb o e => ?_
        have hbP : b ≠ P := fun z => Pfp (z ▸ hb)
        have e3 := keep3 b o hbP e
        exact Heap.get?_push_of_some _ (hs'.extBut b o (Nat.ne_of_lt (Heap.lt_size e3)) (Heap.get?_push_of_some _ e3))
  cases hf : codeAmong gpos ps.toList with
  | none =>
    refine wpAny_genexprCodeX hcode (cd.code hPs ht) (cd.tab hPs) hf fun c' h' tk hx hge hlt hco' _ htab' _ => ?_
    obtain ⟨o1, vs, f1, tf, fl, tg, inF, tx, tt, op, _, _, _, _, _, _, _, _, _, htr, _⟩ := hco'
    exact cont _ h' tk _ hx (Nat.le_trans hge (Nat.le_of_lt hlt)) htab'.2 htr
  | some cv =>
    refine wpAny_genexprCode_hit hcode (cd.code hPs ht) hf ?_
    have := cont cv s2.heap s2.toks #[] (Heap.ExtBut.refl _ _) (Nat.le_refl _) (by rw [Array.append_empty]; exact hPs) (by rw [Array.append_empty]; exact ht)
    exact this
theorem pe_allG {k : Nat} {elt tg iter : Expr} {ifs : List Expr} {scope : Scope} {own : List (Str × Nat)} {gpos p pos : Pos} {wi : TI} {g : TG} {tt : TT} {te : TE} {c P : Addr}
    (hr : Room (k + 3) X.A) (hc : X.calm = true) (hN : X.N.Nodup) (hg : Gl X "all") (hm : X.mg "all" = none) (TB : GxR.TabB X.base X.mg c P) (hcode : X.env.code = .ref c) (hi : PI X tg iter wi) (ok : BlkOk X.N X.env.scope scope own) (hcell : ∀ y ∈ scope.names, y.2 ≠ .cell) (hdot : scope.names.lookup (".0" : Str) = some NameKind.local) (hco : scope.isCoroutine = false)
    (hpg : ∀ (A : Around) (s : Shared) (H : Hp) (C : Addr) (code : Value) (fp : List Addr), Room k (A.deeper (genEnv scope (cloFrom X.env.cells scope.names []) C code builtinsNs X.env)) → PG (genX X A s H (genEnv scope (cloFrom X.env.cells scope.names []) C code builtinsNs X.env) fp) tg g)
    (hpt : ∀ (A : Around) (s : Shared) (H : Hp) (C : Addr) (code : Value) (fp : List Addr), Room k (A.deeper (genEnv scope (cloFrom X.env.cells scope.names []) C code builtinsNs X.env)) → PTs (genX X A s H (genEnv scope (cloFrom X.env.cells scope.names []) C code builtinsNs X.env) fp) ifs tt)
    (hpe : ∀ (A : Around) (s : Shared) (H : Hp) (C : Addr) (code : Value) (fp : List Addr), Room k (A.deeper (genEnv scope (cloFrom X.env.cells scope.names []) C code builtinsNs X.env)) → PE (genX X A s H (genEnv scope (cloFrom X.env.cells scope.names []) C code builtinsNs X.env) fp) elt te)
    (hs : ∀ v, genFold iter X.env v = pure v)
    (he : starEach [.GeneratorExp elt [⟨tg, iter, ifs, 0⟩] scope gpos] X.env = (false, eval (.GeneratorExp elt [⟨tg, iter, ifs, 0⟩] scope gpos) X.env) :: starEach [] X.env := by rfl) :
    PE X (.Call (.Name "all" p) [.GeneratorExp elt [⟨tg, iter, ifs, 0⟩] scope gpos] [] pos) (tGen false P wi g tt te (own.map (·.2))) := by
  refine ⟨fun pins s σ H Q I h => ?_⟩
  refine wpAny_Call_Name_kw (ld_blt I hg hm (by decide +kernel : bootBuiltins "all" = some (.builtin "all")) ?_)
  refine PyProof.Rows.callWith_builtin1 ?_ he (by rfl)
  rw [he]
  show wpAny _ _ (spliced ((false, eval (.GeneratorExp elt [⟨tg, iter, ifs, 0⟩] scope gpos) X.env) :: backTo pos (starEach [] X.env))) _ _ s
  refine Calls.spliced_cons (gen_made hr hc hN TB hcode hi ok hcell hdot hco hpg hpt hpe hs I h fun a gno n s5 hgen hl hgo => ?_)
  refine Calls.spliced_nil ?_
  refine call_function_tree F.kind_all F.plain_all F.entry_all (F.args_all1 _) ?_
  unfold Builtin.«all»
  refine wpAny_bind (m := oneArg "all" _) (wpAny_pure ?_)
  refine wpAny_bind (wpAny_pyIter_gen hgen ?_)
  exact wpAny_pure ⟨plainId_quiet F.plain_all_loop _, all_loop (X := X) (pins := pins) (σ := σ) (I.ok.hd hc) (by have := hr.dp; omega) (fun H1 s' I' q => ⟨.bl true, H1, I', rfl, q⟩) (fun H1 s' I' q => ⟨.bl false, H1, I', rfl, q⟩) n s5 hgen hl hgo⟩
theorem pe_anyG {k : Nat} {elt tg iter : Expr} {ifs : List Expr} {scope : Scope} {own : List (Str × Nat)} {gpos p pos : Pos} {wi : TI} {g : TG} {tt : TT} {te : TE} {c P : Addr}
    (hr : Room (k + 3) X.A) (hc : X.calm = true) (hN : X.N.Nodup) (hg : Gl X "any") (hm : X.mg "any" = none) (TB : GxR.TabB X.base X.mg c P) (hcode : X.env.code = .ref c) (hi : PI X tg iter wi) (ok : BlkOk X.N X.env.scope scope own) (hcell : ∀ y ∈ scope.names, y.2 ≠ .cell) (hdot : scope.names.lookup (".0" : Str) = some NameKind.local) (hco : scope.isCoroutine = false)
    (hpg : ∀ (A : Around) (s : Shared) (H : Hp) (C : Addr) (code : Value) (fp : List Addr), Room k (A.deeper (genEnv scope (cloFrom X.env.cells scope.names []) C code builtinsNs X.env)) → PG (genX X A s H (genEnv scope (cloFrom X.env.cells scope.names []) C code builtinsNs X.env) fp) tg g)
    (hpt : ∀ (A : Around) (s : Shared) (H : Hp) (C : Addr) (code : Value) (fp : List Addr), Room k (A.deeper (genEnv scope (cloFrom X.env.cells scope.names []) C code builtinsNs X.env)) → PTs (genX X A s H (genEnv scope (cloFrom X.env.cells scope.names []) C code builtinsNs X.env) fp) ifs tt)
    (hpe : ∀ (A : Around) (s : Shared) (H : Hp) (C : Addr) (code : Value) (fp : List Addr), Room k (A.deeper (genEnv scope (cloFrom X.env.cells scope.names []) C code builtinsNs X.env)) → PE (genX X A s H (genEnv scope (cloFrom X.env.cells scope.names []) C code builtinsNs X.env) fp) elt te)
    (hs : ∀ v, genFold iter X.env v = pure v)
    (he : starEach [.GeneratorExp elt [⟨tg, iter, ifs, 0⟩] scope gpos] X.env = (false, eval (.GeneratorExp elt [⟨tg, iter, ifs, 0⟩] scope gpos) X.env) :: starEach [] X.env := by rfl) :
    PE X (.Call (.Name "any" p) [.GeneratorExp elt [⟨tg, iter, ifs, 0⟩] scope gpos] [] pos) (tGen true P wi g tt te (own.map (·.2))) := by
  refine ⟨fun pins s σ H Q I h => ?_⟩
  refine wpAny_Call_Name_kw (ld_blt I hg hm (by decide +kernel : bootBuiltins "any" = some (.builtin "any")) ?_)
  refine PyProof.Rows.callWith_builtin1 ?_ he (by rfl)
  rw [he]
  show wpAny _ _ (spliced ((false, eval (.GeneratorExp elt [⟨tg, iter, ifs, 0⟩] scope gpos) X.env) :: backTo pos (starEach [] X.env))) _ _ s
  refine Calls.spliced_cons (gen_made hr hc hN TB hcode hi ok hcell hdot hco hpg hpt hpe hs I h fun a gno n s5 hgen hl hgo => ?_)
  refine Calls.spliced_nil ?_
  refine call_function_tree F.kind_any F.plain_any F.entry_any (F.args_any1 _) ?_
  unfold Builtin.«any»
  refine wpAny_bind (m := oneArg "any" _) (wpAny_pure ?_)
  refine wpAny_bind (wpAny_pyIter_gen hgen ?_)
  exact wpAny_pure ⟨plainId_quiet F.plain_any_loop _, any_loop (X := X) (pins := pins) (σ := σ) (I.ok.hd hc) (by have := hr.dp; omega) (fun H1 s' I' q => ⟨.bl false, H1, I', rfl, q⟩) (fun H1 s' I' q => ⟨.bl true, H1, I', rfl, q⟩) n s5 hgen hl hgo⟩
end
/-! ### by values -/
open Classical in
noncomputable def gbG (sb : Bool) (s : Src) (gt : FG) (tt : FT) (fe : FE) (ρ : Slots) : List PyData → Store → R (Bool × Store)
  | [], st => if s.Ok st then .ok (!sb, st) else .bad
  | d :: r, st => if s.Ok st then gt (.p d) ρ st >>= fun ρ1 => tt ρ1 st >>= fun c => if c.1 = true then fe ρ1 c.2 >>= fun a => match a.1 with
      | .p (.bool b) => if b = sb then .ok (sb, a.2) else gbG sb s gt tt fe ρ r a.2
      | _ => .bad
    else gbG sb s gt tt fe ρ r c.2 else .bad
noncomputable def vGb (sb : Bool) (fi : FI) (gt : FG) (tt : FT) (fe : FE) (vs : List Nat) : FE := fun ρ st => fi ρ st >>= fun a => (gbG sb a.1 gt tt fe (wipeV ρ vs) a.1.ds a.2).only fun b => .ok (.p (.bool b.1), b.2)
theorem ext_tab {g : Gh} {P : Addr} {H2 : Hp} (h1 : GxR.TabG g.H P) (h : GxR.Tabbed P g.H H2) : Ext g ⟨g.F, g.A, H2⟩ := by
  obtain ⟨ps, e1, _⟩ := h1
  obtain ⟨⟨qs, e2, _⟩, h3⟩ := h
  refine ⟨Same.refl _, ⟨[], by simp, fun a z => by simp at z⟩, fun b o hb ht _ => ?_, fun b hb => ?_, fun _ _ _ _ hf => hf, fun b us hb _ => ?_⟩
  · show H2 b = some o
    rw [h3 b (fun z => by rw [z, e1] at hb; cases hb; exact ht ps rfl)]; exact hb
  · have hb : H2 b = none := hb
    by_cases z : b = P
    · rw [z, e2] at hb; cases hb
    · rw [h3 b z] at hb; exact hb
  · by_cases z : b = P
    · exact ⟨qs, by rw [z]; exact e2⟩
    · exact ⟨us, by show H2 b = _; rw [h3 b z]; exact hb⟩
theorem wd_tab {K : PySem.W.Frag} {st : Store} {g : Gh} (w : Wd K st g) {P : Addr} {H2 : Hp} (ht : TabAt g P) (h : GxR.Tabbed P g.H H2) : Wd K st ⟨g.F, g.A, H2⟩ := by
  obtain ⟨_, hF, hA⟩ := ht
  obtain ⟨h2, h3⟩ := h
  refine ⟨fun b x q => ?_, w.nd, w.len, fun a ha => ?_, fun k a ob k1 k2 => ?_, fun p hp => ?_⟩
  · have q : g.F b = some x := q
    show H2 b = some x
    rw [h3 b (fun z => by rw [z, hF] at q; cases q)]; exact w.sub b x q
  · obtain ⟨x, hx⟩ := w.there a ha
    exact ⟨x, by show H2 a = some x; rw [h3 a (fun z => hA (z ▸ ha))]; exact hx⟩
  · refine ObAt.ext (g := g) (g' := ⟨g.F, g.A, H2⟩) (Same.refl _) id ?_ (w.own k a ob k1 k2)
    show H2 a = g.H a
    rw [h3 a (fun (z : a = P) => hA (by rw [← z]; exact List.mem_of_getElem? k1))]
  · by_cases z : p.2 = P
    · refine ⟨by show GxR.TabG H2 p.2; rw [z]; exact h2, (w.tabs p hp).2.1, (w.tabs p hp).2.2⟩
    · exact (w.tabs p hp).mono (h3 _ z) rfl rfl
theorem gb_read {K : PySem.W.Frag} {W : Wish} {sb : Bool} {c P : Addr} {fi : FI} {gt : FG} {tt : FT} {fe : FE} {vs ws : List Nat} {wi : TI} (hP : (c, P) ∈ tabsOf K) (hws : ∀ j ∈ ws, j ∈ vs)
    (runI : ∀ ρ st σ g P, Rel K ρ st σ g → KR (WN K W ρ σ g) (okI K ρ σ P g) (fi ρ st) → wi σ g.H P) : RE K W (tGen sb P wi (gOf K ws gt) (ttOf K noW tt) (tOf K noW fe) vs) (vGb sb fi gt tt fe vs) := by
  intro ρ st σ g Q rel k
  refine runI ρ st σ g _ rel (KR.mono (KR.bind k) (fun a ha J g1 e1 r1 o1 w1 => ⟨(r1.wd.tabs _ hP).1, fun H2 hT => ?_⟩) fun n s hn => hn)
  obtain ⟨s, st1⟩ := a
  have ha : KR (WN K W ρ σ g) (okE K ρ σ Q g) ((gbG sb s gt tt fe (wipeV ρ vs) s.ds st1).only fun b => .ok (.p (.bool b.1), b.2)) := ha
  have fin : ∀ {b : Bool} {st' : Store} {g' : Gh}, okE K ρ σ Q g (.p (.bool b), st') → Ext g1 g' → Wd K st' g' → Q (.bl b) g'.H := fun {b st' g'} h e w =>
    h (.bl b) g' (e1.trans e) ⟨w, r1.sl.ext e⟩ (show Has K g'.F (.bool b) (.bl b) from .bl b)
  refine ⟨fun i m H => ∃ st' g', g'.H = H ∧ Ext g1 g' ∧ Wd K st' g' ∧ i ≤ s.ds.length ∧ m = s.ds.length - i ∧
      KR no (fun b => okE K ρ σ Q g (.p (.bool b.1), b.2)) (gbG sb s gt tt fe (wipeV ρ vs) (s.ds.drop i) st'),
    ⟨s.ds.length, st1, ⟨g1.F, g1.A, H2⟩, rfl, ext_tab (r1.wd.tabs _ hP).1 hT, wd_tab r1.wd (r1.wd.tabs _ hP) hT, Nat.zero_le _, rfl, by rw [List.drop_zero]; exact KR.mono (R.only_of ha) (fun b hb => hb) fun _ _ z => z⟩, ?_⟩
  rintro i m H ⟨st', g', rfl, e', w', hi, rfl, k'⟩
  have sl' : Sl K g' ρ σ := r1.sl.ext e'
  by_cases hlt : i < s.ds.length
  · rw [List.drop_eq_getElem_cons hlt] at k'
    unfold gbG at k'
    split at k'
    · rename_i ok
      obtain ⟨go, stop, yld⟩ := w1 st' g' e'.w w' ok
      refine .inr ⟨go i hlt, fun H2 => ∃ st2 g2, g2.H = H2 ∧ Ext g1 g2 ∧ Wd K st2 g2 ∧
          KR no (fun b => okE K ρ σ Q g (.p (.bool b.1), b.2)) (gbG sb s gt tt fe (wipeV ρ vs) (s.ds.drop (i + 1)) st2),
        fun H2 ⟨st2, g2, q1, q2, q3, q4⟩ => ⟨s.ds.length - (i + 1), by omega, st2, g2, q1, q2, q3, hlt, rfl, q4⟩, fun x H2 hy => ?_⟩
      obtain ⟨g2, rfl, e2, w2, hx⟩ := yld i x H2 s.ds[i] (List.getElem?_eq_getElem hlt) hy
      refine ⟨wipeV ρ vs, st', g2, .p s.ds[i], rfl, ⟨w2, (sl'.ext e2).wipe vs⟩, hx, ?_⟩
      refine KR.mono (KR.bind k') (fun ρ1 h1 σ1 b1 r1' => ⟨wipe_but b1 hws, ρ1, st', g2, rfl, r1', ?_⟩) fun _ _ z => z
      refine KR.mono (KR.bind h1) (fun b hb g3 e3 r3 => ?_) fun _ _ z => z.elim
      obtain ⟨b, st3⟩ := b
      have E3 : Ext g1 g3 := (e'.trans e2).trans e3
      cases b with
      | true =>
        rw [if_pos rfl]
        simp only [if_true] at hb
        refine ⟨ρ1, st3, g3, rfl, r3, KR.mono (KR.bind hb) (fun a ha v g4 e4 r4 hv => ?_) fun _ _ z => z.elim⟩
        obtain ⟨d, st5⟩ := a
        cases d with
        | loc _ => exact ha.elim
        | p d =>
          cases d with
          | bool b =>
            simp only at ha
            refine ⟨b, Has.bl_inv hv, fun hb => ?_, fun hb => ?_⟩
            · rw [if_pos hb] at ha
              exact fin ha (E3.trans e4) r4.wd
            · rw [if_neg hb] at ha
              exact ⟨st5, g4, rfl, E3.trans e4, r4.wd, ha⟩
          | _ => exact ha.elim
      | false =>
        rw [if_neg Bool.false_ne_true]
        simp only [Bool.false_eq_true, if_false] at hb
        exact ⟨st3, g3, rfl, E3, r3.wd, hb⟩
    · exact k'.elim
  · have ei : i = s.ds.length := by omega
    subst ei
    rw [List.drop_length] at k'
    unfold gbG at k'
    split at k'
    · rename_i ok
      obtain ⟨go, stop, yld⟩ := w1 st' g' e'.w w' ok
      exact .inl ⟨stop _ (Nat.le_refl _), fin k' e' w'⟩
    · exact k'.elim
section
variable {X : Cx} {W : Wish}
theorem ve_allG {k : Nat} {elt tg iter : Expr} {ifs : List Expr} {scope : Scope} {own : List (Str × Nat)} {gpos p pos : Pos} {fi : FI} {gt : FG} {tt : FT} {fe : FE} {ws vs : List Nat} {c P : Addr}
    (hr : Room (k + 3) X.A) (hc : X.calm = true) (hN : X.N.Nodup) (hg : Gl X "all") (hm : X.mg "all" = none) (TB : GxR.TabB X.base X.mg c P) (hP : (c, P) ∈ tabsOf X.K) (hcode : X.env.code = .ref c) (hi : VI X W tg iter fi) (ok : BlkOk X.N X.env.scope scope own)
    (hpg : ∀ (A : Around) (s : Shared) (H : Hp) (C : Addr) (code : Value) (fp : List Addr), Room k (A.deeper (genEnv scope (cloFrom X.env.cells scope.names []) C code builtinsNs X.env)) → VG (genX X A s H (genEnv scope (cloFrom X.env.cells scope.names []) C code builtinsNs X.env) fp) ws tg gt)
    (hpt : ∀ (A : Around) (s : Shared) (H : Hp) (C : Addr) (code : Value) (fp : List Addr), Room k (A.deeper (genEnv scope (cloFrom X.env.cells scope.names []) C code builtinsNs X.env)) → VTs (genX X A s H (genEnv scope (cloFrom X.env.cells scope.names []) C code builtinsNs X.env) fp) noW ifs tt)
    (hpe : ∀ (A : Around) (s : Shared) (H : Hp) (C : Addr) (code : Value) (fp : List Addr), Room k (A.deeper (genEnv scope (cloFrom X.env.cells scope.names []) C code builtinsNs X.env)) → VE (genX X A s H (genEnv scope (cloFrom X.env.cells scope.names []) C code builtinsNs X.env) fp) noW elt fe)
    (hws : ∀ j ∈ ws, j ∈ vs := by decide) (hvs : own.map (·.2) = vs := by rfl) (hcell : ∀ y ∈ scope.names, y.2 ≠ .cell := by decide +kernel) (hdot : scope.names.lookup (".0" : Str) = some NameKind.local := by rfl) (hco : scope.isCoroutine = false := by rfl) (hs : ∀ v, genFold iter X.env v = pure v := by intro _; rfl)
    (he : starEach [.GeneratorExp elt [⟨tg, iter, ifs, 0⟩] scope gpos] X.env = (false, eval (.GeneratorExp elt [⟨tg, iter, ifs, 0⟩] scope gpos) X.env) :: starEach [] X.env := by rfl) :
    VE X W (.Call (.Name "all" p) [.GeneratorExp elt [⟨tg, iter, ifs, 0⟩] scope gpos] [] pos) (vGb false fi gt tt fe vs) := by
  subst hvs
  obtain ⟨wi, pi, runI⟩ := hi
  exact ⟨_, pe_allG hr hc hN hg hm TB hcode pi ok hcell hdot hco (fun A s H C code fp r => (hpg A s H C code fp r).pg) (tt := ttOf X.K noW tt) (fun A s H C code fp r => hpt A s H C code fp r) (fun A s H C code fp r => (hpe A s H C code fp r).pe) hs he, gb_read hP hws runI⟩
theorem ve_anyG {k : Nat} {elt tg iter : Expr} {ifs : List Expr} {scope : Scope} {own : List (Str × Nat)} {gpos p pos : Pos} {fi : FI} {gt : FG} {tt : FT} {fe : FE} {ws vs : List Nat} {c P : Addr}
    (hr : Room (k + 3) X.A) (hc : X.calm = true) (hN : X.N.Nodup) (hg : Gl X "any") (hm : X.mg "any" = none) (TB : GxR.TabB X.base X.mg c P) (hP : (c, P) ∈ tabsOf X.K) (hcode : X.env.code = .ref c) (hi : VI X W tg iter fi) (ok : BlkOk X.N X.env.scope scope own)
    (hpg : ∀ (A : Around) (s : Shared) (H : Hp) (C : Addr) (code : Value) (fp : List Addr), Room k (A.deeper (genEnv scope (cloFrom X.env.cells scope.names []) C code builtinsNs X.env)) → VG (genX X A s H (genEnv scope (cloFrom X.env.cells scope.names []) C code builtinsNs X.env) fp) ws tg gt)
    (hpt : ∀ (A : Around) (s : Shared) (H : Hp) (C : Addr) (code : Value) (fp : List Addr), Room k (A.deeper (genEnv scope (cloFrom X.env.cells scope.names []) C code builtinsNs X.env)) → VTs (genX X A s H (genEnv scope (cloFrom X.env.cells scope.names []) C code builtinsNs X.env) fp) noW ifs tt)
    (hpe : ∀ (A : Around) (s : Shared) (H : Hp) (C : Addr) (code : Value) (fp : List Addr), Room k (A.deeper (genEnv scope (cloFrom X.env.cells scope.names []) C code builtinsNs X.env)) → VE (genX X A s H (genEnv scope (cloFrom X.env.cells scope.names []) C code builtinsNs X.env) fp) noW elt fe)
    (hws : ∀ j ∈ ws, j ∈ vs := by decide) (hvs : own.map (·.2) = vs := by rfl) (hcell : ∀ y ∈ scope.names, y.2 ≠ .cell := by decide +kernel) (hdot : scope.names.lookup (".0" : Str) = some NameKind.local := by rfl) (hco : scope.isCoroutine = false := by rfl) (hs : ∀ v, genFold iter X.env v = pure v := by intro _; rfl)
    (he : starEach [.GeneratorExp elt [⟨tg, iter, ifs, 0⟩] scope gpos] X.env = (false, eval (.GeneratorExp elt [⟨tg, iter, ifs, 0⟩] scope gpos) X.env) :: starEach [] X.env := by rfl) :
    VE X W (.Call (.Name "any" p) [.GeneratorExp elt [⟨tg, iter, ifs, 0⟩] scope gpos] [] pos) (vGb true fi gt tt fe vs) := by
  subst hvs
  obtain ⟨wi, pi, runI⟩ := hi
  exact ⟨_, pe_anyG hr hc hN hg hm TB hcode pi ok hcell hdot hco (fun A s H C code fp r => (hpg A s H C code fp r).pg) (tt := ttOf X.K noW tt) (fun A s H C code fp r => hpt A s H C code fp r) (fun A s H C code fp r => (hpe A s H C code fp r).pe) hs he, gb_read hP hws runI⟩
end
/-! ### the end of a law, with the tables of codes -/
theorem tabIn_of {K : PySem.W.Frag} {x : Str} {f c P : Addr} {oc : Value} {od : Option Addr} {fd : FuncData} {osl : Array (Option Value)} {o2 : Value} {o3 : Option Addr} {vs : Array Value} {o4 : Array (Option Value)} (h1 : PySem.W.nsIn K mainGlobals x = some (some (.ref f))) (h2 : K.lookup f = some ⟨oc, od, .func fd, osl⟩) (h3 : fd.code = .ref c)
    (h4 : K.lookup c = some ⟨o2, o3, .fields vs, o4⟩) (h5 : (vs[11]? : Option Value) = some (.ref P)) : PySem.W.tabIn K x = some (c, P) := by
  unfold PySem.W.tabIn
  simp only [h1, h2, h3, h4, h5]
theorem tabs_mem {K : PySem.W.Frag} {f c P : Addr} {oc : Value} {od : Option Addr} {fd : FuncData} {osl : Array (Option Value)} {o2 : Value} {o3 : Option Addr} {vs : Array Value} {o4 : Array (Option Value)} (h2 : K.lookup f = some ⟨oc, od, .func fd, osl⟩) (h0 : fd.qualname = fd.name) (h3 : fd.code = .ref c)
    (h4 : K.lookup c = some ⟨o2, o3, .fields vs, o4⟩) (h5 : (vs[11]? : Option Value) = some (.ref P)) : (c, P) ∈ tabsOf K := by
  unfold tabsOf
  refine List.mem_filterMap.mpr ⟨(f, _), PySem.W.mem_of_lookupK h2, ?_⟩
  simp only [h0, h3, h4, h5, beq_self_eq_true, if_true]
theorem walk_ofV {l : PySem.W.OpenLaw} {n k : Nat} {q : Program} {loose : List Str} {XP : (Str → Option Value) → Heap → Prop} {YP : World → Heap → Prop} {d : DefRec} {K : Params → PySem.W.Frag} {x : Str} {m : FM}
    (hn : l.most = some n) (hn2 : n ≤ sizeLine) (hdf : d.params.defaults = []) (hr : Room k callerA) (hY : ∀ (w : World) (h : Heap), YP w h → (K w.params).In h)
    (F : ∀ (w : World) (mg : Str → Option Value) (fa : Addr) (h : Heap), (K w.params).In h → h.Ns mainGlobals mg → mg d.name = some (.ref fa) →
      (∀ p ∈ tabsOf (K w.params), (∃ x d', (recsOf q).find? (fun e => e.name == x) = some d' ∧ PySem.W.tabIn (K w.params) x = some p) ∧ (K w.params).lookup p.2 = none) ∧
      ∃ fd : FuncData, (∀ (s : Shared) (u : Value), BindsTo s fd ⟨[u], []⟩ [(x, u)]) ∧
        ∀ base : Heap, (K w.params).In base → base.Ns mainGlobals mg → (∀ p ∈ tabsOf (K w.params), GxR.TabB base mg p.1 p.2) → FnOk l.prog w (K w.params) mg base CX0 k fa fd [x] (spV (K w.params) noX 1 m))
    (hm : ∀ ns : List Int, ns.length ≤ n → ∃ st', m [.p (.list (ns.map .int))] [] = .ok (.p (.bool true), st')) :
    PySem.W.WalkO q loose XP YP l.row.toRowW d [] (fun f vs => PySem.call f vs) := by
  refine Att.attach_callB hn hdf fun w s₀ s₁ mg mb fa o pm cd doc a vs ns G Y ho hd hcd hmg hobj hints hlen hbits hg => ?_
  have KX := hY w _ Y
  obtain ⟨hT, fd, hb, hF⟩ := F w mg fa _ KX G.T.g hmg
  have tf : ∀ p ∈ tabsOf (K w.params), PySem.W.CodeHd s₁.heap p.1 p.2 ∧ s₁.heap.get? p.2 = some (PySem.W.tabObj #[]) := fun p hp => by
    obtain ⟨⟨x, d', h1, h2⟩, _⟩ := hT p hp
    obtain ⟨c, P⟩ := p
    exact PySem.W.tab_of G.T KX h1 h2
  exact LamX.law_callTs (CX := CX0) (cs := tabsOf (K w.params)) KX G.T.g G.T.b G.T.builtins G.T.nolimit hg (fun p hp => (tf p hp).2) (fun p hp => (hT p hp).2) (fun p hp => (tf p hp).1) G.T.bmain hobj hints (Nat.le_trans hlen hn2) hr (fun base b1 b2 b3 => hF base b1 b2 fun p hp => ⟨(b3 p hp).code, (b3 p hp).bm, (b3 p hp).gP⟩) hb
    (fun H hH hS => sp_end hS hH (hm ns hlen)) fun _ _ _ z => z
end VL

/-! more calls -/
namespace VL
open PySem PySem.Spec PyProof.Rows L2
section
variable {X : Cx} {W : Wish}
/-! ### list(range(..)), tuple(range(..)) -/
abbrev FR := Slots → Store → R ((Int × Int) × Store)
def VRg (X : Cx) (W : Wish) (e : Expr) (f : FR) : Prop := ∃ t, PRg X e t ∧ ∀ {β : Type} (ρ : Slots) (st : Store) (σ : L2.St) (g : Gh) (P : Int → Int → Hp → Prop) (ok : Gh → β → Prop) (k : (Int × Int) × Store → R β), Goes ok → Rel X.K ρ st σ g →
    KR (WN X.K W ρ σ g) (ok g) (f ρ st >>= k) → (∀ a b st1 g1, Ext g g1 → Rel X.K ρ st1 σ g1 → KR (WN X.K W ρ σ g1) (ok g1) (k ((a, b), st1)) → P a b g1.H) → t σ g.H P
def rg1 (f : FE) : FR := fun ρ st => f ρ st >>= fun a => match a.1 with
  | .p (.int n) => .ok ((0, n), a.2)
  | _ => .bad
def rg2 (f h : FE) : FR := fun ρ st => f ρ st >>= fun a => h ρ a.2 >>= fun b => match a.1, b.1 with
  | .p (.int m), .p (.int n) => .ok ((m, n), b.2)
  | _, _ => .bad
theorem vrg_1 {a : Expr} {f : FE} {p pos : Pos} (hg : Gl X "range") (hm : X.mg "range" = none) (h : VE X W a f) (na : starEach [a] X.env = (false, eval a X.env) :: starEach [] X.env := by rfl) : VRg X W (.Call (.Name "range" p) [a] [] pos) (rg1 f) := by
  obtain ⟨t, pe, run⟩ := h.run
  refine ⟨_, prg_1 hg hm pe na, fun {β} ρ st σ g P ok k go rel kr hP => ?_⟩
  have kr : KR (WN X.K W ρ σ g) (ok g) (f ρ st >>= fun a => (match a.1 with | .p (.int n) => (.ok ((0, n), a.2) : R ((Int × Int) × Store)) | _ => .bad) >>= k) := by
    unfold rg1 at kr
    cases hf : f ρ st with
    | ok a => rw [hf] at kr; exact kr
    | exc n s => rw [hf] at kr; exact kr
    | bad => rw [hf] at kr; exact kr
  refine run ρ st σ g _ ok _ go rel kr fun d1 st1 v1 g1 e1 r1 h1 k1 => ?_
  cases d1 with
  | loc _ => exact k1.elim
  | p d =>
    cases d with
    | int n => exact ⟨n, Has.int_inv h1, hP 0 n st1 g1 e1 r1 k1⟩
    | _ => exact k1.elim
theorem vrg_2 {a b : Expr} {f h : FE} {p pos : Pos} (hg : Gl X "range") (hm : X.mg "range" = none) (ha : VE X W a f) (hb : VE X W b h) (na : starEach [a, b] X.env = (false, eval a X.env) :: starEach [b] X.env := by rfl)
    (nb : starEach [b] X.env = (false, eval b X.env) :: starEach [] X.env := by rfl) (hp : (backTo pos (starEach [b] X.env)).any (·.1) = false := by rfl) : VRg X W (.Call (.Name "range" p) [a, b] [] pos) (rg2 f h) := by
  obtain ⟨t, pe, run⟩ := ha.run
  obtain ⟨u, pu, run2⟩ := hb.run
  refine ⟨_, prg_2 hg hm pe pu na nb hp, fun {β} ρ st σ g P ok k go rel kr hP => ?_⟩
  have kr : KR (WN X.K W ρ σ g) (ok g) (f ρ st >>= fun a => h ρ a.2 >>= fun b => (match a.1, b.1 with | .p (.int m), .p (.int n) => (.ok ((m, n), b.2) : R ((Int × Int) × Store)) | _, _ => .bad) >>= k) := by
    unfold rg2 at kr
    cases hf : f ρ st with
    | ok a =>
      simp only [hf, R.ok_bind] at kr ⊢
      cases hh : h ρ a.2 with
      | ok b => simp only [hh, R.ok_bind] at kr ⊢; exact kr
      | exc n s => simp only [hh] at kr ⊢; exact kr
      | bad => simp only [hh] at kr ⊢; exact kr
    | exc n s => rw [hf] at kr; exact kr
    | bad => rw [hf] at kr; exact kr
  refine run ρ st σ g _ ok _ go rel kr fun d1 st1 v1 g1 e1 r1 h1 k1 => ?_
  refine run2 ρ st1 σ g1 _ ok _ go r1 k1 fun d2 st2 v2 g2 e2 r2 h2 k2 => ?_
  cases d1 with
  | loc _ => exact k2.elim
  | p d =>
    cases d with
    | int m =>
      cases d2 with
      | loc _ => exact k2.elim
      | p d' =>
        cases d' with
        | int n => exact ⟨m, n, Has.int_inv h1, Has.int_inv h2, hP m n st2 g2 (e1.trans e2) r2 k2⟩
        | _ => exact k2.elim
    | _ => exact k2.elim
noncomputable instance (a b : Int) : Decidable (RgOk a b) := Classical.propDecidable _
theorem hasL_rg {K : PySem.W.Frag} {F : Hp} (a b : Int) : HasL K F (rangeD a b) (rgV a b) := by
  have := hasL_of_ints (K := K) (F := F) ((List.range (b - a).toNat).map fun (i : Nat) => a + (i : Int))
  rw [List.map_map, List.map_map] at this
  exact this
noncomputable def nRange (f : FR) : FN := fun ρ st => f ρ st >>= fun a => if RgOk a.1.1 a.1.2 then .ok (.lst (rangeD a.1.1 a.1.2), a.2) else .bad
noncomputable def vTupRg (f : FR) : FE := fun ρ st => f ρ st >>= fun a => if RgOk a.1.1 a.1.2 then .ok (.p (.tuple (rangeD a.1.1 a.1.2)), a.2) else .bad
theorem vn_listRg {e : Expr} {f : FR} {p pos : Pos} (hc : X.calm = true) (hg : Gl X "list") (hm : X.mg "list" = none) (he : VRg X W e f) (na : starEach [e] X.env = (false, eval e X.env) :: starEach [] X.env := by rfl) : VN X W (.Call (.Name "list" p) [e] [] pos) (nRange f) := by
  obtain ⟨t, pe, run⟩ := he
  refine ⟨_, pe_listRg hc hg hm pe na, fun ρ st σ g Q rel k => ?_⟩
  refine run ρ st σ g _ (okN X.K ρ σ Q) _ okN.goes rel k fun a b st1 g1 e1 r1 k1 => ?_
  simp only at k1
  split at k1
  · rename_i hok
    exact ⟨hok, fun q hq => okN_new r1 k1 hq ⟨_, rfl, hasL_rg a b⟩⟩
  · exact k1.elim
theorem ve_tupRg {e : Expr} {f : FR} {p pos : Pos} (hc : X.calm = true) (hg : Gl X "tuple") (hm : X.mg "tuple" = none) (he : VRg X W e f) (na : starEach [e] X.env = (false, eval e X.env) :: starEach [] X.env := by rfl) : VE X W (.Call (.Name "tuple" p) [e] [] pos) (vTupRg f) := by
  obtain ⟨t, pe, run⟩ := he
  refine ⟨_, pe_tupRg hc hg hm pe na, fun ρ st σ g Q rel k => ?_⟩
  refine run ρ st σ g _ (okE X.K ρ σ Q) _ okE.goes rel k fun a b st1 g1 e1 r1 k1 => ?_
  simp only at k1
  split at k1
  · rename_i hok
    exact ⟨hok, okP_newT r1 (hasL_rg a b) k1⟩
  · exact k1.elim
/-! ### l.pop(i) -/
def mPopAt (st : Store) (x : Vd) (ds : List Vd) : R (Vd × Store) := match x, ds with
  | .loc k, [.p (.int i)] => match st[k]? with
    | some (.lst l) => if -(2 ^ 63) ≤ i ∧ i < 2 ^ 63 then match seqIndex? i l.length with
      | some j => match l[j]? with
        | some d => .ok (.p d, st.set k (.lst (l.eraseIdx j)))
        | none => .bad
      | none => .bad else .bad
    | _ => .bad
  | _, _ => .bad
theorem mv_popAt : MthV X W "list" "list.pop" isLstV mPopAt := by
  refine ⟨_, mt_popAt, isLst_ty, fun ρ st σ g x v ds vs Q rel hx hd k => ?_⟩
  cases x with
  | p _ => exact k.elim
  | loc j =>
    cases ds with
    | nil => exact k.elim
    | cons y r =>
      cases r with
      | cons _ _ => cases y with
        | loc _ => exact k.elim
        | p d => cases d <;> exact k.elim
      | nil =>
        cases y with
        | loc _ => exact k.elim
        | p d =>
          cases d with
          | int i =>
            obtain ⟨u, ur, rfl, h1, h2⟩ := hd.uncons
            cases h2.nil_inv
            obtain ⟨a, ha, rfl⟩ := hx
            simp only [mPopAt] at k
            cases hj : st[j]? with
            | none => rw [hj] at k; exact k.elim
            | some ob =>
              rw [hj] at k
              cases ob with
              | lst l =>
                simp only at k
                split at k
                · rename_i hb
                  cases hi : seqIndex? i l.length with
                  | none => simp only [hi] at k; exact k.elim
                  | some m =>
                    simp only [hi] at k
                    cases hd : l[m]? with
                    | none => simp only [hd] at k; exact k.elim
                    | some d =>
                      simp only [hd] at k
                      obtain ⟨hF, xs, hH, hL⟩ := own_lst rel.wd ha hj
                      obtain ⟨y, hy, hdy⟩ := hL.get hd
                      have hn : NewAt X.K g.F (.lst (l.eraseIdx m)) (.lst (xs.eraseIdx m)) := ⟨_, rfl, hL.eraseIdx m⟩
                      refine ⟨a, xs, i, m, y, rfl, by rw [show u = .int i from Has.int_inv h1], hH, hb.1, hb.2, by rw [hL.1]; exact hi, hy, k y _ (ext_mut ha _) (rel_mut rel ha hF hn) (show Has X.K g.F d y from hdy)⟩
                · exact k.elim
              | _ => exact k.elim
          | _ => exact k.elim
/-! ### reversed walks, pairs -/
def iRev (f : FE) : FI := fun ρ st => f ρ st >>= fun a => match a.1 with
  | .p (.list ds) => .ok (⟨ds.reverse, none⟩, a.2)
  | .p (.tuple ds) => .ok (⟨ds.reverse, none⟩, a.2)
  | _ => .bad
theorem rev_get {α : Type} {l : List α} {n i : Nat} (hl : l.length = n) (hi : i < n) : l.reverse[i]? = l[n - 1 - i]? := by
  subst hl
  rw [List.getElem?_reverse hi]
theorem vi_rev {tg e : Expr} {f : FE} {p pos : Pos} (hg : Gl X "reversed") (hm : X.mg "reversed" = none) (h : VE X W e f) (hs : starEach [e] X.env = (false, eval e X.env) :: starEach [] X.env := by rfl) : VI X W tg (.Call (.Name "reversed" p) [e] [] pos) (iRev f) := by
  obtain ⟨t, pe, run⟩ := h.run
  refine ⟨_, RT.pi_revA hg hm pe hs, fun ρ st σ g P rel k => ?_⟩
  refine run ρ st σ g _ (okI X.K ρ σ P) _ okI.goes rel k fun d1 st1 v1 g1 e1 r1 h1 k1 => ?_
  cases d1 with
  | loc _ => exact k1.elim
  | p d =>
    cases d with
    | list ds =>
      obtain ⟨a, xs, rfl, s, l⟩ := Has.lst_inv h1
      refine ⟨a, xs, rfl, .inl ⟨r1.wd.sub.seq s, k1 _ g1 (Ext.refl g1) r1 trivial fun st g e w o => ?_⟩⟩
      have hs : SqL X.K g.H a xs := (e.frz.trans w.sub).seq s
      refine ⟨fun i hi => ?_, fun i hi => ?_, fun i x H' d hd hy => ?_⟩
      · have hi : i < ds.reverse.length := hi
        rw [List.length_reverse] at hi
        have : xs.length - 1 - i < xs.length := by rw [l.1]; omega
        exact ⟨by rw [l.1]; exact hi, xs, xs[xs.length - 1 - i], hs, List.getElem?_eq_getElem this⟩
      · have hi : ds.reverse.length ≤ i := hi
        rw [List.length_reverse] at hi
        show xs.length ≤ i
        rw [l.1]; exact hi
      · obtain ⟨e1, hy⟩ := hy
        have hi : i < ds.length := by have := (List.getElem?_eq_some_iff.mp hd).1; simpa using this
        have hd : ds.reverse[i]? = some d := hd
        rw [rev_get rfl hi] at hd
        have hx := hy xs hs
        rw [l.1] at hx
        exact ⟨g, e1.symm, Ext.refl g, w, (l.2 _ d x hd hx).mono e.frz⟩
    | tuple ds =>
      obtain ⟨a, xs, rfl, s, l⟩ := Has.tup_inv h1
      refine ⟨a, xs, rfl, .inr ⟨seqT_mono r1.wd.sub s, k1 _ g1 (Ext.refl g1) r1 trivial fun st g e w o => ?_⟩⟩
      have hs : SqT X.K g.H a xs := seqT_mono (e.frz.trans w.sub) s
      refine ⟨fun i hi => ?_, fun i hi => ?_, fun i x H' d hd hy => ?_⟩
      · have hi : i < ds.reverse.length := hi
        rw [List.length_reverse] at hi
        have : xs.length - 1 - i < xs.length := by rw [l.1]; omega
        exact ⟨by rw [l.1]; exact hi, xs, xs[xs.length - 1 - i], hs, List.getElem?_eq_getElem this⟩
      · have hi : ds.reverse.length ≤ i := hi
        rw [List.length_reverse] at hi
        show xs.length ≤ i
        rw [l.1]; exact hi
      · obtain ⟨e1, hy⟩ := hy
        have hi : i < ds.length := by have := (List.getElem?_eq_some_iff.mp hd).1; simpa using this
        have hd : ds.reverse[i]? = some d := hd
        rw [rev_get rfl hi] at hd
        have hx := hy xs hs
        rw [l.1] at hx
        exact ⟨g, e1.symm, Ext.refl g, w, (l.2 _ d x hd hx).mono e.frz⟩
    | _ => exact k1.elim
/-! ### xs[::-1] -/
theorem places_rev (n : Nat) : Builtin.Slice.sliceAdjust none none (-1) (n : Int) = ((n : Int) - 1, -1) ∧ Builtin.Slice.slicePlaces ((n : Int) - 1) (-1) (-1) = n := by
  constructor
  · first | rfl | simp [Builtin.Slice.sliceAdjust]
  · unfold Builtin.Slice.slicePlaces
    simp
    omega
end
section
variable {prog : Program} {w : World} {A : Around} {E : Value → Shared → Prop} {s : Shared}
theorem sliceApplied_rev {sl : Addr} {n : Nat} {u : Tok} {Q : Int × Int × Nat → Shared → Prop} (hs : s.heap.IsSliceOf sl .none .none (.int (-1) u)) (h : Q ((n : Int) - 1, -1, n) s) :
    wpAny (model prog w) A (Builtin.Slice.sliceApplied (.ref sl) (pure (n : Int))) Q E s := by
  obtain ⟨os, hos, hcs, hds⟩ := id hs
  unfold Builtin.Slice.sliceApplied Builtin.Slice.sliceFields
  refine wpAny_bind (wpAny_bind (wpAny_field hos hds (x := .none) rfl (wpAny_bind (wpAny_field hos hds (x := .none) rfl (wpAny_bind (wpAny_field hos hds (x := .int (-1) u) rfl (wpAny_pure ?_)))))))
  refine wpAny_bind (slicePart_int ?_)
  show wpAny _ _ (if ((-1 : Int) == 0) = true then _ else _) _ _ s
  rw [if_neg (by decide)]
  refine wpAny_bind (slicePart_none (wpAny_bind (slicePart_none (wpAny_bind (wpAny_pure ?_)))))
  show wpAny _ _ (match Builtin.Slice.sliceAdjust none none (-1) (n : Int) with | (lo, hi) => pure (lo, (-1 : Int), Builtin.Slice.slicePlaces lo hi (-1))) _ _ s
  rw [(places_rev n).1]
  show wpAny _ _ (pure ((n : Int) - 1, (-1 : Int), Builtin.Slice.slicePlaces ((n : Int) - 1) (-1) (-1))) _ _ s
  rw [(places_rev n).2]
  exact wpAny_pure h
theorem pick_rev (xs : Array Value) : ((List.range xs.size).filterMap fun (k : Nat) => xs[(((xs.size : Int) - 1) + (k : Int) * (-1)).toNat]?).toArray = xs.toList.reverse.toArray := by
  congr 1
  have e : (fun (k : Nat) => xs[(((xs.size : Int) - 1) + (k : Int) * (-1)).toNat]?) = fun k => xs[xs.size - 1 - k]? := by
    funext k
    have : (((xs.size : Int) - 1) + (k : Int) * (-1)).toNat = xs.size - 1 - k := by omega
    rw [this]
  rw [e]
  have h := PySem.W.krv_range xs.size
  have e2 : (List.range xs.size).filterMap (fun k => xs[xs.size - 1 - k]?) = ((List.range xs.size).map (fun k => xs.size - 1 - k)).filterMap (xs[·]?) := by
    rw [List.filterMap_map]; rfl
  rw [e2, h, List.filterMap_reverse, PySem.W.krv_all]
theorem getItem_tuple_rev {t sl : Addr} {items : Array Value} {u : Tok} {Q : Value → Shared → Prop} (ht : IsTup s.heap t items) (hs : s.heap.IsSliceOf sl .none .none (.int (-1) u))
    (h : Q (.ref s.heap.objs.size) { s with heap := s.heap.push { cls := .type "tuple", data := .seq items.toList.reverse.toArray } })
    (hsz : items.size ≤ sizeLine) : wpAny (model prog w) A (getItem (.ref t) (.ref sl)) Q E s := by
  have hdrop : sizeOk (.seq items.toList.reverse.toArray) := by
    show items.toList.reverse.toArray.size ≤ sizeLine
    rw [List.size_toArray, List.length_reverse, Array.length_toList]
    exact hsz
  obtain ⟨os, hos, hcs, hds⟩ := id hs
  have hTs : s.TypeIs (.ref sl) "slice" := ⟨os, hos, hcs⟩
  unfold getItem
  try with_reducible refine wpAny_holding ?_
  first | refine wpAny_bind (wpAny_pure ?_) | skip
  refine wpAny_bind (wpAny_sequenceKey ht.typeIs (by decide) ?_)
  refine wpAny_bind (wpAny_callSpecial?_slot (name := Str.ofString "__getitem__") ht.typeIs slot_tuple_getitem
    (wpAny_call_entry slot_tuple_getitem ht.typeIs entry_tuple_getitem ?_ (args_tuple_getitem _ _)))
  show wpAny _ _ (Builtin.Tuple.tupleItemsOf (.ref t) >>= _) _ _ s
  refine wpAny_bind (tupleItemsOf_ ht ?_)
  refine wpAny_bind (wpAny_typeOf hTs ?_)
  rw [if_pos (by decide)]
  refine wpAny_bind (sliceApplied_rev hs ?_)
  have hno : ¬ ((((items.size : Int) - 1) == 0 && (-1 : Int) == 1 && items.size == items.size) = true) := by simp
  show wpAny _ _ (if (((items.size : Int) - 1) == 0 && (-1 : Int) == 1 && items.size == items.size) = true then _ else _) _ _ s
  rw [if_neg hno, pick_rev items]
  first
    | exact wpAny_bind (m := Builtin.Tuple.tupleExact _) (wpAny_newObj_type (wpAny_pure ⟨_, rfl, wpAny_pure h⟩) hdrop)
    | exact wpAny_bind (m := Builtin.Tuple.tupleExact _) (wpAny_newObj_type (wpAny_bind (wpAny_pure (wpAny_pure ⟨_, rfl, wpAny_pure h⟩))) hdrop)
    | exact wpAny_bind (wpAny_bind (m := Builtin.Tuple.tupleExact _) (wpAny_newObj_type (wpAny_pure (wpAny_pure ⟨_, rfl, wpAny_pure h⟩)) hdrop))
    | exact wpAny_bind (wpAny_bind (m := Builtin.Tuple.tupleExact _) (wpAny_newObj_type (wpAny_pure ⟨_, rfl, wpAny_pure h⟩) hdrop))
end
section
variable {X : Cx} {W : Wish}
def tRevT (K : PySem.W.Frag) (te : TE) : TE := fun σ H Q => te σ H fun x H1 => ∃ a xs, x = .ref a ∧ SqT K H1 a xs ∧ ∀ p, H1 p = none → Q (.ref p) (upd H1 p (.tup xs.reverse))
theorem pe_revT {e : Expr} {te : TE} {k : Nat} {p1 p2 p3 pos : Pos} (he : PE X e te) : PE X (.Subscript e (.Slice none none (some (.UnaryOp .USub (.Constant (.int 1) k p1) p2)) p3) pos) (tRevT X.K te) := by
  refine ⟨fun pins s σ H Q I h => ?_⟩
  refine Subscript_ (thn (he.run pins s σ H _ I h) fun v s1 ⟨x, H1, I1, r1, q1⟩ => ?_)
  obtain ⟨a, xs, ex, hx, q⟩ := q1
  subst ex
  cases r1
  have hst : PO X (some (.UnaryOp .USub (.Constant (.int 1) k p1) p2)) (tPart (tUn (rU fun i => .int (-i)) (tC (.int 1)))) := po_some (pe_un un_neg pe_int)
  refine wpAny_Slice (thn (po_none.run pins s1 σ H1 (fun o H2 => o = none ∧ H2 = H1) I1 ⟨rfl, rfl⟩) fun vl s2 ⟨l, H2, I2, pl, el, e2⟩ => ?_)
  subst el e2
  refine thn (po_none.run pins s2 σ H2 (fun o H3 => o = none ∧ H3 = H2) I2 ⟨rfl, rfl⟩) fun vu s3 ⟨u, H3, I3, pu, eu, e3⟩ => ?_
  subst eu e3
  refine thn (hst.run pins s3 σ H3 (fun o H4 => o = some (-1) ∧ H4 = H3) I3 ⟨1, rfl, -1, rfl, rfl, rfl⟩) fun vs s4 ⟨o, H4, I4, ps, eo, e4⟩ => ?_
  subst eo e4
  have I5 : Inv X pins σ H4 { s4 with heap := s4.heap.push { cls := .type "slice", data := .fields #[vl, vu, vs] } } := I4.kept (t' := s4.toks) fun b ob q => Heap.get?_push_of_some _ q
  obtain ⟨its, r, ht, hz⟩ := I5.tuple hx
  have hlen := r.length
  show wpAny (model X.prog X.w) X.A (subscriptTail e (.Slice none none (some (.UnaryOp .USub (.Constant (.int 1) k p1) p2)) p3) (.ref a) (.ref s4.heap.objs.size)) (EP X pins σ Q) X.xe { s4 with heap := s4.heap.push { cls := .type "slice", data := .fields #[vl, vu, vs] } }
  refine tail_any (ops := [.ref a, .ref s4.heap.objs.size]) ht.typeIs (slot_tuple_getitem.lookup) ?_ (by with_unfolding_all rfl)
  have hso := Heap.IsSliceOf.new s4.heap vl vu vs
  cases pl
  cases pu
  cases ps
  refine getItem_tuple_rev ht hso ?_ (by rw [List.size_toArray]; omega)
  refine ⟨.ref _, _, I5.laid (t' := s4.toks) (o := .tup xs.reverse) (fun b ob q => Heap.get?_push_of_some _ q) (Nat.le_refl _) ?_, rfl, q _ (I5.hok.fresh (Nat.le_refl _))⟩
  exact ⟨by rw [List.length_reverse]; exact hz, _, r.reverse, IsTup.new _ _⟩
theorem PE.or {e : Expr} {t t' : TE} (a : PE X e t) (b : PE X e t') : PE X e (fun σ H Q => t σ H Q ∨ t' σ H Q) := ⟨fun pins s σ H Q I h => by
  rcases h with h | h
  · exact a.run pins s σ H Q I h
  · exact b.run pins s σ H Q I h⟩
def revP : PyData → R PyData
  | .list xs => .ok (.list xs.reverse)
  | .tuple xs => .ok (.tuple xs.reverse)
  | _ => .bad
theorem ve_revS {e : Expr} {f : FE} {k : Nat} {p1 p2 p3 pos : Pos} (he : VE X W e f) : VE X W (.Subscript e (.Slice none none (some (.UnaryOp .USub (.Constant (.int 1) k p1) p2)) p3) pos) (vUn revP f) := by
  obtain ⟨t, pe, run⟩ := he
  refine ⟨_, PE.or (pe_revL pe) (pe_revT pe), fun ρ st σ g Q rel k => ?_⟩
  unfold vUn at k
  cases hf : f ρ st with
  | bad => rw [hf] at k; exact k.elim
  | exc n s =>
    rw [hf] at k
    exact .inl (run ρ st σ g _ rel (by rw [hf]; exact k))
  | ok a =>
    rw [hf] at k
    obtain ⟨d1, st1⟩ := a
    obtain ⟨x, px, k2⟩ := peek_bind (show KR _ _ (peek st1 d1 >>= _) from k)
    cases x with
    | list xs =>
      refine .inl (run ρ st σ g _ rel ?_)
      rw [hf]
      intro v g1 e1 r1 hv
      obtain ⟨a, vs, rfl, s, l⟩ := (pk_of r1.wd hv px).lst
      exact ⟨a, vs, rfl, s, okP_newL r1 l.reverse (W := W) (Q := Q) (okE.goes g g1 _ e1 k2)⟩
    | tuple xs =>
      refine .inr (run ρ st σ g _ rel ?_)
      rw [hf]
      intro v g1 e1 r1 hv
      obtain ⟨a, vs, rfl, s, l⟩ := Pk.tup r1.wd (pk_of r1.wd hv px)
      exact ⟨a, vs, rfl, s, okP_newT r1 l.reverse (W := W) (Q := Q) (okE.goes g g1 _ e1 k2)⟩
    | _ => exact k2.elim
/-! ### sorted -/
def isTup1 : PyData → Bool
  | .tuple (_ :: _) => true
  | _ => false
def isTupA : PyData → Bool
  | .tuple _ => true
  | _ => false
/-- what sorted takes -/
def SortOk (ds : List PyData) : Prop := (ds.all SeqAt.shaped && (ds.all fun x => ds.all fun y => PySem.W.alike x y) && ((ds.all isTup1) || ds.all fun d => !isNone d && !isTupA d)) = true
theorem SortOk.all {ds : List PyData} (h : SortOk ds) : (∀ x ∈ ds, SeqAt.shaped x = true) ∧ PySem.W.AllAlike ds ∧ PySem.W.Sortable ds := by
  unfold SortOk at h
  simp only [Bool.and_eq_true, List.all_eq_true, Bool.or_eq_true] at h
  refine ⟨h.1.1, fun x hx y hy => h.1.2 x hx y hy, ?_⟩
  rcases h.2 with h | h
  · refine .inl fun d hd => ?_
    have := h d hd
    cases d with
    | tuple l => cases l with
      | nil => cases this
      | cons x r => exact ⟨x, r, rfl⟩
    | _ => cases this
  · refine .inr fun d hd => ?_
    have := h d hd
    simp only [Bool.not_eq_true', decide_eq_true_eq] at this
    refine ⟨fun z => ?_, fun xs z => ?_⟩
    · subst z; simp [isNone] at this
    · subst z; simp [isTupA] at this
abbrev sortD (ds : List PyData) : List PyData := ds.mergeSort (PySem.W.dataLe false id)
end
section
variable {prog : Program} {w : World} {A : Around} {E : Value → Shared → Prop} {s : Shared}
theorem collect_tup {l : Addr} {vs : List Value} {Q : List Value → Shared → Prop} (hl : IsTup s.heap l vs.toArray)
    (h : Q vs { s with heap := (s.heap.push (seqObj "list" #[] 0)).update s.heap.objs.size (Obj.mapSeq (· ++ vs.toArray)) }) (hsz : vs.length ≤ sizeLine) :
    wpAny (model prog w) A (collect (.ref l)) Q E s := by
  obtain ⟨o, ho, hc, n, hd⟩ := id hl
  unfold collect
  refine wpAny_bind (wpAny_runValue (codeAny_builtin entry_proto_collect' ?_))
  show wpAny _ _ (do again (.builtin "list.__iadd__" ⟨[← newList [], .ref l], []⟩)) _ _ s
  refine wpAny_bind (wpAny_newList (wpAny_pure ⟨Code.quiet_builtin _ (by decide +kernel), codeAny_builtin entry_list_iadd' ?_⟩))
  show wpAny _ _ (Builtin.List.listExtendWith (.ref s.heap.objs.size) (.ref l) (.ref s.heap.objs.size)) _ _ { s with heap := s.heap.push (seqObj "list" #[] 0) }
  unfold Builtin.List.listExtendWith
  have ho' : (s.heap.push (seqObj "list" #[] 0)).get? l = some o := Heap.get?_push_of_some _ ho
  refine wpAny_bind (wpAny_typeOf (T := "tuple") ⟨o, ho', hc⟩ ?_)
  have ht : (Value.type "tuple" == Value.type "tuple") = true := by rfl
  rw [if_pos (by rw [ht]; simp)]
  refine wpAny_bind (listItems_at ho' hd ?_)
  refine wpAny_bind (listItems_at (xs := #[]) (n := 0) (Heap.get?_push_size _ rfl) rfl ?_)
  rw [if_neg (by simp)]
  refine wpAny_bind (listUpdate_at (xs := #[]) (n := 0) (Heap.get?_push_size _ rfl) rfl ?_ (Nat.zero_le _) (by show (#[] ++ vs.toArray).size ≤ sizeLine + 1; simp only [Array.size_append, List.size_toArray, List.length_nil]; omega))
  refine wpAny_pure ?_
  show wpAny (model prog w) A (do
      let o ← load s.heap.objs.size
      match o.data with
      | .seq xs _ => pure xs.toList
      | _ => unsupported "internal:collect") Q E { s with heap := (s.heap.push (seqObj "list" #[] 0)).update s.heap.objs.size (Obj.mapSeq (· ++ vs.toArray)) }
  refine wpAny_bind (wpAny_load (get?_update_seq (Heap.get?_push_size _ rfl) _) ?_)
  show wpAny _ _ (pure ((#[] : Array Value) ++ vs.toArray).toList) Q E _
  rw [show ((#[] : Array Value) ++ vs.toArray).toList = vs by simp]
  exact wpAny_pure h
theorem sorted_of_sortT {l : Addr} {vs : List Value} {kw : List (Str × Value)} {Q : Value → Shared → Prop} (hl : IsTup s.heap l vs.toArray) (hL : vs.length ≤ sizeLine) (ha1 : argsOk "sorted" ⟨[.ref l], kw⟩) (ha2 : ∀ x, argsOk "list.sort" ⟨[.ref x], kw⟩)
    (body : ∀ E' : Value → Shared → Prop, wpAny (model prog w) A.in1.in1 (Builtin.«list.sort» ⟨[.ref (s.heap.objs.size + 1)], kw⟩) (fun f s' => f = .done (.ret .none) ∧ Q (.ref (s.heap.objs.size + 1)) s') E' { s with heap := PySem.W.copyHeap s.heap vs }) :
    wpAny (model prog w) A (call (.builtin "sorted") [.ref l] kw) Q E s := by
  refine call_function_entry_kw kind_sorted plain_sorted entry_sorted ha1 ?_
  unfold Builtin.«sorted»
  refine wpAny_bind (m := checkCount "sorted" 1 1 _) (wpAny_pure ?_)
  refine wpAny_bind (collect_tup hl ?_ hL)
  refine wpAny_bind (wpAny_newList ?_ hL)
  have hsz : ((s.heap.push (seqObj "list" #[] 0)).update s.heap.objs.size (Obj.mapSeq (· ++ vs.toArray))).objs.size = s.heap.objs.size + 1 := by
    rw [Heap.size_update, size_push']
  show wpAny _ _ _ _ _ { s with heap := PySem.W.copyHeap s.heap vs }
  rw [hsz]
  refine wpAny_bind (wpAny_holding (wpAny_call_entry_kw slot_list_sort ⟨_, PySem.W.copyHeap_at s.heap vs, rfl⟩ entry_list_sort ?body (ha2 _)))
  case body =>
    show wpAny (model prog w) A.in1.in1 (Builtin.«list.sort» ⟨[.ref (s.heap.objs.size + 1)], kw⟩) _ _ _
    refine wpAny_mono (body _) (fun f s' hf => ?_) fun _ _ e => e
    obtain ⟨rfl, hq⟩ := hf
    exact ⟨_, rfl, wpAny_pure ⟨_, rfl, hq⟩⟩
open PySem.W in
theorem sorted_dataT {β : Type} {R : Value → β → Prop} {enc : β → PyData} {bs : List β} {vs : List Value} {l : Addr} {Q : Value → Shared → Prop} (hl : IsTup s.heap l vs.toArray) (e : EachIs R vs bs) (er : EachIs (fun v b => ∃ as, Reads s.heap v (enc b) as) vs bs) (hal : AllAlike (bs.map enc)) (hk : Sortable (bs.map enc)) (hL : bs.length ≤ sizeLine)
    (hu : ∀ b, b ∈ bs → A.units + 2 + (enc b).depth < cLine) (h : ∀ out, out.length = bs.length → EachIs R out (bs.mergeSort (dataLe false enc)) → Q (.ref (s.heap.objs.size + 1)) { s with heap := sortedAll s.heap vs (List.toArray out) }) :
    wpAny (model prog w) A (call (.builtin "sorted") [.ref l]) Q E s := by
  have er' : EachIs (fun v b => ∃ as, Reads (sortingHeap (copyHeap s.heap vs) (s.heap.objs.size + 1) vs) v (enc b) as) vs bs := er.mono fun _ _ ⟨as, r⟩ => ⟨as, PyProof.Rows.Reads.keeps (fun _ _ => sorting_copy_old) r⟩
  have hlen : vs.length ≤ sizeLine := by rw [e.length]; exact hL
  have S := SortsAt.data (prog := prog) (w := w) (A := A.in1.in1) (s := { s with heap := sortingHeap (copyHeap s.heap vs) (s.heap.objs.size + 1) vs }) (each_map (R := fun v d => ∃ as, Reads (sortingHeap (copyHeap s.heap vs) (s.heap.objs.size + 1) vs) v d as) enc er') hal hk (bound_map hu)
  exact sorted_of_sortT hl hlen (args_sorted1 _) (fun _ => args_list_sort _) fun _ => list_sort_vals (s := { s with heap := copyHeap s.heap vs }) (copyHeap_at s.heap vs) S hlen
    ⟨rfl, h _ (by rw [sortVals_length false rfl]; exact e.length) (sortVals_data false e er' hal)⟩
end
section
variable {X : Cx} {W : Wish}
def rSortV (K : PySem.W.Frag) : List V → Hp → VK → Prop := fun vs H Q => ∃ (a : Addr) (F : Hp) (ds : List PyData) (xs : List V), vs = [V.ref a] ∧ Same F H ∧ (SqL K H a xs ∨ SqT K H a xs) ∧ HasL K F ds xs ∧ SortOk ds ∧ ∀ p ys, H p = none → HasL K F (sortD ds) ys → Q (.ref p) (upd H p (.lst ys))
theorem each_of {K : PySem.W.Frag} {F : Hp} : ∀ {ds : List PyData} {xs : List V} {its : List Value}, HasL K F ds xs → Vals xs its → PySem.W.EachIs (fun (v : Value) (d : PyData) => ∃ x, L2.RelV x v ∧ Has K F d x) its ds
  | [], xs, its, h, r => by
    rw [h.nil_inv] at r
    cases r
    exact .nil
  | d :: ds, xs, its, h, r => by
    obtain ⟨v, rest, rfl, h1, h2⟩ := h.uncons
    cases r with
    | cons a b => exact .cons ⟨v, a, h1⟩ (each_of h2 b)
theorem of_each {K : PySem.W.Frag} {F : Hp} : ∀ {ds : List PyData} {its : List Value}, PySem.W.EachIs (fun (v : Value) (d : PyData) => ∃ x, L2.RelV x v ∧ Has K F d x) its ds → ∃ xs, Vals xs its ∧ HasL K F ds xs
  | _, _, .nil => ⟨[], .nil, .nil⟩
  | _, _, .cons ⟨x, a, b⟩ r => by
    obtain ⟨xs, h1, h2⟩ := of_each r
    exact ⟨x :: xs, .cons a h1, .cons b h2⟩
theorem cr_sortV (hu : X.A.units + 70 < cLine) : CallR X (.builtin "sorted") (rSortV X.K) := by
  intro pins s σ H vs us Q I r h
  obtain ⟨a, F, ds, xs, rfl, hF, hq, hl, ho, q⟩ := h
  obtain ⟨u, rfl, ru⟩ := r.one
  cases ru
  obtain ⟨h1, h2, h3⟩ := ho.all
  have hc := canLayAll_of h1
  have hdep : ∀ b ∈ ds, X.A.units + 2 + (id b).depth < cLine := fun b hb => by
    have := depth_shaped (h1 b hb)
    show X.A.units + 2 + b.depth < cLine
    omega
  have er : ∀ {its : List Value}, Vals xs its → PySem.W.EachIs (fun (v : Value) (d : PyData) => ∃ as, Reads s.heap v (id d) as) its ds := fun {its} rv => by
    obtain ⟨as, ra⟩ := Dp.readsAll I ds xs its ((hl.mono hF).dpAll hc) rv
    exact PySem.W.readsAll_each id (by rw [List.map_id]; exact ra)
  have fin : ∀ {its : List Value}, Vals xs its → xs.length ≤ sizeLine → ∀ out : List Value, out.length = ds.length → PySem.W.EachIs (fun (v : Value) (d : PyData) => ∃ x, L2.RelV x v ∧ Has X.K F d x) out (sortD ds) → ∃ v H', L2.Inv X pins σ H' { s with heap := sortedAll s.heap its out.toArray } ∧ L2.RelV v (.ref (s.heap.objs.size + 1)) ∧ Q v H' := fun {its} rv hz out hlen eo => by
    obtain ⟨ys, rv2, hl2⟩ := of_each eo
    obtain ⟨c, hc2⟩ := sortedAll_at s.heap its out.toArray
    refine ⟨.ref _, _, I.laid (a := s.heap.objs.size + 1) (t' := s.toks) (o := .lst ys) (fun b ob e => sortedAll_old e) (Nat.le_succ _) ?_, rfl, q _ ys (I.hok.fresh (Nat.le_succ _)) hl2⟩
    exact ⟨by rw [rv2.length, hlen, ← hl.1]; exact hz, out, c, rv2, hc2⟩
  rcases hq with hq | hq
  · obtain ⟨its, rv, p, hz⟩ := I.list hq
    exact PySem.W.sorted_data (enc := id) (bs := ds) (R := fun (v : Value) (d : PyData) => ∃ x, L2.RelV x v ∧ Has X.K F d x) p.isList (each_of hl rv) (er rv) (by rw [List.map_id]; exact h2) (by rw [List.map_id]; exact h3) (by rw [← hl.1]; exact hz) hdep fun out hlen eo => fin rv hz out hlen eo
  · obtain ⟨its, rv, p, hz⟩ := I.tuple hq
    exact sorted_dataT (enc := id) (bs := ds) (R := fun (v : Value) (d : PyData) => ∃ x, L2.RelV x v ∧ Has X.K F d x) p (each_of hl rv) (er rv) (by rw [List.map_id]; exact h2) (by rw [List.map_id]; exact h3) (by rw [← hl.1]; exact hz) hdep fun out hlen eo => fin rv hz out hlen eo
end
end VL
namespace VL
open PySem PySem.Spec PyProof.Rows L2
section
variable {X : Cx} {W : Wish}
instance (ds : List PyData) : Decidable (SortOk ds) := by unfold SortOk; infer_instance
def nSorted (f : FE) : FN := fun ρ st => f ρ st >>= fun a => peek a.2 a.1 >>= fun d => match itemsOf d with
  | some ds => if SortOk ds then .ok (.lst (sortD ds), a.2) else .bad
  | none => .bad
theorem vn_sorted {p pos : Pos} {e : Expr} {f : FE} (hu : X.A.units + 70 < cLine) (hg : Gl X "sorted") (hm : X.mg "sorted" = none) (h : VE X W e f)
    (he : starEach [e] X.env = (false, eval e X.env) :: starEach [] X.env := by rfl) (hpl : (backTo pos (starEach [] X.env)).any (·.1) = false := by rfl) :
    VN X W (.Call (.Name "sorted" p) [e] [] pos) (nSorted f) := by
  obtain ⟨t, pe, run⟩ := h.run
  refine ⟨_, pe_callB (cr_sortV hu) hg hm (by decide +kernel) (pa_cons (hs := he) pe pa_nil) (by decide) (by decide) he hpl, fun ρ st σ g Q rel k => ?_⟩
  refine run ρ st σ g _ (okN X.K ρ σ Q) _ okN.goes rel k fun d1 st1 v1 g1 e1 r1 h1 k1 => ?_
  obtain ⟨x, px, k2⟩ := peek_bind k1
  cases ei : itemsOf x with
  | none => simp only [ei] at k2; exact k2.elim
  | some xs =>
    simp only [ei] at k2
    split at k2
    · rename_i hok
      obtain ⟨a, vs, rfl, s, l⟩ := (pk_of r1.wd h1 px).sq r1.wd ei
      exact ⟨a, g1.F, xs, vs, rfl, r1.wd.sub, s, l, hok, fun q ys hq hl => okN_new r1 k2 hq ⟨ys, rfl, hl⟩⟩
    · exact k2.elim
end
theorem room70 {k : Nat} {A : Around} (r : Room k A) : A.units + 70 < cLine := by have := r.un; omega
end VL

namespace VL
open PySem PySem.Spec PyProof.Rows L2
/-- where a def of the text lies -/
structure DefT (K : PySem.W.Frag) (mg : Str → Option Value) (sd : Stmt) (x : Str) where
  a : Addr
  d : FuncData
  F : Fun K x x sd a d
  g : mg x = some (.ref a)
  c : Addr
  P : Addr
  e : d.code = .ref c
  t : (c, P) ∈ tabsOf K
noncomputable def DefT.mk' {K : PySem.W.Frag} {mg : Str → Option Value} {h : Heap} {sd : Stmt} {x : Str} {f c P : Addr} {oc kV dc pm ct qo : Value} {od an qp : Option Addr} {sl qs : Array (Option Value)} {vs : Array Value} (X : K.In h) (G : h.Ns mainGlobals mg)
    (a : PySem.W.nsIn K mainGlobals x = some (some (.ref f))) (l : K.lookup f = some ⟨oc, od, .func (PySem.W.fnOf x x (defArgs sd) (defBody sd) (defScope sd) .none kV dc pm an (.ref c) ct), sl⟩)
    (hh : PySem.W.codeIn K (.ref c) x = true) (k : PySem.W.keepIn K (.ref f) = true) (q : K.lookup c = some ⟨qo, qp, .fields vs, qs⟩) (t : (vs[11]? : Option Value) = some (.ref P)) : DefT K mg sd x :=
  ⟨f, _, fun_mk l hh k, PySem.W.mg_of X G a, c, P, rfl, tabs_mem l rfl rfl q t⟩
/-- all that is known of a def of the text -/
structure DefI (K : PySem.W.Frag) (q : Program) (x : Str) (sd : Stmt) where
  f : Addr
  c : Addr
  P : Addr
  oc : Value
  kV : Value
  dc : Value
  pm : Value
  ct : Value
  qo : Value
  od : Option Addr
  an : Option Addr
  qp : Option Addr
  sl : Array (Option Value)
  qs : Array (Option Value)
  vs : Array Value
  r : DefRec
  ha : PySem.W.nsIn K mainGlobals x = some (some (.ref f))
  hl : K.lookup f = some ⟨oc, od, .func (PySem.W.fnOf x x (defArgs sd) (defBody sd) (defScope sd) .none kV dc pm an (.ref c) ct), sl⟩
  hh : PySem.W.codeIn K (.ref c) x = true
  hk : PySem.W.keepIn K (.ref f) = true
  hq : K.lookup c = some ⟨qo, qp, .fields vs, qs⟩
  ht : (vs[11]? : Option Value) = some (.ref P)
  hn : K.lookup P = none
  hr : (recsOf q).find? (fun e => e.name == x) = some r
@[reducible] def DefI.of {K : PySem.W.Frag} {q : Program} {x : Str} {sd : Stmt} {f c P : Addr} {oc kV dc pm ct qo : Value} {od an qp : Option Addr} {sl qs : Array (Option Value)} {vs : Array Value} {r : DefRec}
    (a : PySem.W.nsIn K mainGlobals x = some (some (.ref f))) (l : K.lookup f = some ⟨oc, od, .func (PySem.W.fnOf x x (defArgs sd) (defBody sd) (defScope sd) .none kV dc pm an (.ref c) ct), sl⟩)
    (hh : PySem.W.codeIn K (.ref c) x = true) (k : PySem.W.keepIn K (.ref f) = true) (q' : K.lookup c = some ⟨qo, qp, .fields vs, qs⟩) (t : (vs[11]? : Option Value) = some (.ref P)) (n : K.lookup P = none) (rc : (recsOf q).find? (fun e => e.name == x) = some r) : DefI K q x sd :=
  ⟨f, c, P, oc, kV, dc, pm, ct, qo, od, an, qp, sl, qs, vs, r, a, l, hh, k, q', t, n, rc⟩
noncomputable def DefI.at {K : PySem.W.Frag} {q : Program} {mg : Str → Option Value} {h : Heap} {sd : Stmt} {x : Str} (X : K.In h) (G : h.Ns mainGlobals mg) (D : DefI K q x sd) : DefT K mg sd x := .mk' X G D.ha D.hl D.hh D.hk D.hq D.ht
def TabGood (K : PySem.W.Frag) (q : Program) (p : Addr × Addr) : Prop := (∃ x d', (recsOf q).find? (fun e => e.name == x) = some d' ∧ PySem.W.tabIn K x = some p) ∧ K.lookup p.2 = none
theorem DefI.good {K : PySem.W.Frag} {q : Program} {sd : Stmt} {x : Str} (D : DefI K q x sd) : TabGood K q (D.c, D.P) := ⟨⟨x, _, D.hr, tabIn_of D.ha D.hl rfl D.hq D.ht⟩, D.hn⟩
theorem tabs_good {K : PySem.W.Frag} {q : Program} {L : List (Addr × Addr)} (hL : (tabsOf K).all (fun p => L.contains p) = true) (h : ∀ p ∈ L, TabGood K q p) : ∀ p ∈ tabsOf K, (∃ x d', (recsOf q).find? (fun e => e.name == x) = some d' ∧ PySem.W.tabIn K x = some p) ∧ K.lookup p.2 = none := by
  intro p hp
  have := List.all_eq_true.mp hL p hp
  exact h p (by simpa using this)
theorem tabs_cons {K : PySem.W.Frag} {q : Program} {p : Addr × Addr} {L : List (Addr × Addr)} (h : TabGood K q p) (t : ∀ p ∈ L, TabGood K q p) : ∀ x ∈ p :: L, TabGood K q x := List.forall_mem_cons.mpr ⟨h, t⟩
theorem tabs_nil {K : PySem.W.Frag} {q : Program} : ∀ x ∈ ([] : List (Addr × Addr)), TabGood K q x := fun x hx => nomatch hx
end VL

namespace VL
open PySem PySem.Spec PyProof.Rows L2

/-! ### dict(pairs), its keys tuples -/
def mergeT (kvs more : List (List Key × V)) : List (List Key × V) := more.foldl (fun acc kv => putK acc kv.1 kv.2) kvs
theorem kt_merge {H : Hp} : ∀ {more : List (List Key × V)} {rs : List (List Key × Addr × Value)} {kvs : List (List Key × V)} {vs : List (List Key × Addr × Value)}, KT H more rs → KT H kvs vs → KT H (mergeT kvs more) (storedAllH vs rs)
  | _, _, _, _, .nil, r => r
  | _, _, kvs, vs, .cons (a := p) (b := q) h t, r => by
    obtain ⟨h1, h2, h3⟩ := h
    have := r.put p.1 h2 h3
    rw [h1] at this
    show KT H (mergeT (putK kvs p.1 p.2) _) (storedAllH (storedH vs q.1 q.2.1 q.2.2) _)
    rw [h1]
    exact kt_merge t this
theorem mergeT_len : ∀ (more kvs : List (List Key × V)), (mergeT kvs more).length ≤ kvs.length + more.length
  | [], kvs => Nat.le_refl _
  | p :: r, kvs => by
    have h1 := mergeT_len r (putK kvs p.1 p.2)
    have h2 := length_putK kvs p.1 p.2
    show (mergeT (putK kvs p.1 p.2) r).length ≤ _
    simp only [List.length_cons]
    omega
abbrev PairsT (K : PySem.W.Frag) (H : Hp) : List Addr → List (List Key × V) → Prop := Paired fun p kv => ∃ b, SqT K H p [.ref b, kv.2] ∧ H b = some (.tup (kv.1.map kV))
section
variable {X : Cx}
theorem pairsT_of {pins : List (Addr × Obj)} {σ : L2.St} {H : Hp} {s : Shared} (I : Inv X pins σ H s) : ∀ {ps : List Addr} {kvs : List (List Key × V)}, PairsT X.K H ps kvs →
    ∃ xs : List (List Key × Addr × Value), KT H kvs xs ∧ xs.length = ps.length ∧ ∀ (j : Nat) q, xs[j]? = some q → ∃ b : Addr, ps[j]? = some b ∧ IsTup s.heap b #[.ref q.2.1, q.2.2]
  | _, _, .nil => ⟨[], .nil, rfl, fun j q e => by simp at e⟩
  | _, _, .cons (a := p) (b := kv) h t => by
    obtain ⟨xs, r, hl, hp⟩ := pairsT_of I t
    obtain ⟨b, h, hb⟩ := h
    obtain ⟨its, rv, ht, _⟩ := I.tuple h
    obtain ⟨u, y, ei, ru, ry⟩ := vals2 rv
    subst ei
    cases (show u = Value.ref b from ru)
    refine ⟨(kv.1, b, y) :: xs, .cons ⟨rfl, hb, ry⟩ r, by rw [List.length_cons, List.length_cons, hl], fun j q e => ?_⟩
    cases j with
    | zero =>
      have e' : (kv.1, b, y) = q := Option.some.inj e
      subst e'
      exact ⟨p, rfl, ht⟩
    | succ j =>
      obtain ⟨c, e1, e2⟩ := hp j q (by simpa using e)
      exact ⟨c, by simpa using e1, e2⟩
theorem call_dictPT (hu : X.A.units + 70 < cLine) (hcalm : X.calm = true) : CallR X (.type "dict") (fun xs H Q => ∃ (a : Addr) (ps : List Addr) (kvs : List (List Key × V)), xs = [.ref a] ∧ SqL X.K H a (ps.map V.ref) ∧ PairsT X.K H ps kvs ∧
    ∀ p, H p = none → Q (.ref p) (upd H p (.dT (mergeT [] kvs)))) := by
  intro pins s σ H xs us Q I r q
  obtain ⟨a, ps, kvs, ex, hq, hp, q⟩ := q
  subst ex
  obtain ⟨u, eu, rx⟩ := vals1 r
  subst eu
  cases rx
  obtain ⟨its, rv, pl, hz⟩ := I.list hq
  have ei := refs_at rv
  subst ei
  rw [List.length_map] at hz
  obtain ⟨xs, rel, hl, hpr⟩ := pairsT_of I hp
  obtain ⟨o, n, ho, hc, hd, hdat⟩ := pl
  have hz : ps.length ≤ sizeLine := hz
  have keys : ∀ {l : List (List Key × V)} {m : List (List Key × Addr × Value)}, KT H l m → ∀ x ∈ m, H x.2.1 = some (.tup (x.1.map kV)) := by
    intro l m q
    induction q with
    | nil => intro x hx; exact nomatch hx
    | @cons p q ps qs hq t ih =>
      intro x hx
      rcases List.mem_cons.mp hx with e | hx
      · subst e
        rw [← hq.1]; exact hq.2.1
      · exact ih x hx
  refine call_dict_pairsH (knd := tupleKind (mixKind X.prog X.w)) (ps := xs) (PairArg.list a (ps.map Value.ref).toArray (fun j => ps.getD j 0) (xs.map fun q => (Value.ref q.2.1, q.2.2))) (I.ok.hd hcalm) (tupleKind_room_in1 (A := X.A.in1) (show X.A.units + 1 + 1 < cLine by omega))
    ⟨⟨o, n, ho, hc, hd, hdat⟩, by simp [hl], fun j k v hj => ?_⟩ ⟨by simp, fun i key v hi => ?_⟩ (fun h' hk x hx => ?_) (by rw [List.length_map, hl]; exact hz) fun h' tk hd' k => ?_
  · rw [List.getElem?_map] at hj
    cases ej : xs[j]? with
    | none => rw [ej] at hj; cases hj
    | some q' =>
      rw [ej] at hj; cases hj
      obtain ⟨b, e1, ho, e2, e3, n, e4⟩ := hpr j q' ej
      have e5 : ps.getD j 0 = b := by rw [List.getD_eq_getElem?_getD, e1]; rfl
      show _ = some (Value.ref (ps.getD j 0)) ∧ PairAt s.heap (ps.getD j 0) _ _
      rw [e5]
      exact ⟨by simp [e1], .inl ⟨_, e2, e3, n, e4⟩⟩
  · have hi : (xs.map fun q => (Value.ref q.2.1, q.2.2))[i]? = some (key, v) := hi
    rw [List.getElem?_map] at hi
    cases ej : xs[i]? with
    | none => rw [ej] at hi; cases hi
    | some q' =>
      rw [ej] at hi; cases hi
      exact ⟨q'.1, q'.2.1, rfl, rfl⟩
  · obtain ⟨o1, its, n1, h1, h2, h3⟩ := key_of (P := X.prog) (w := X.w) I.hok (keys rel x hx)
    exact ⟨o1, its, n1, hk _ _ (Nat.ne_of_lt (Heap.lt_size h1)) (fun h => nomatch h) h1, h2, h3⟩
  · have hm : (s.heap.objs.size == sysModules) = false := beq_eq_false_iff_ne.mpr (Nat.ne_of_gt I.big)
    have hlen : (mergeT [] kvs).length ≤ sizeLine := by
      refine Nat.le_trans (mergeT_len kvs []) ?_
      rw [List.length_nil, Nat.zero_add, Paired.length rel, hl]
      exact hz
    obtain ⟨q', es, ep, hq, h2, h3, h4, _, h5⟩ := hd'
    have hf := I.hok.fresh (Nat.le_refl s.heap.objs.size)
    exact ⟨.ref s.heap.objs.size, upd H s.heap.objs.size (.dT (mergeT [] kvs)), I.laid (t' := tk) (fun b o e => k b o (fun h => nomatch h) e) (Nat.le_refl _)
      (show ObjOk X.prog X.w _ _ _ (.dT (mergeT [] kvs)) from ⟨hlen, hm, _, (kt_merge rel .nil).keeps fun c ys ec => by rw [upd_ne (fun z => by rw [z, hf] at ec; cases ec)]; exact ec, q', es, ep, hq, h2, h3, h4, h5⟩), rfl, q _ hf⟩
end

/-! ### in the layer -/
def pairOf : PyData → Option (PyData × PyData)
  | .tuple [a, b] => some (a, b)
  | _ => none
def pairsOfD : List PyData → Option (List (PyData × PyData))
  | [] => some []
  | d :: ds => match pairOf d, pairsOfD ds with
    | some p, some r => some (p :: r)
    | _, _ => none
noncomputable def dictOfP (kvs : List (PyData × PyData)) : List (PyData × PyData) := kvs.foldl (fun acc p => putP acc p.1 p.2) []
noncomputable def nDictP (t : Bool) (f : FE) : FN := fun ρ st => f ρ st >>= fun a => peek a.2 a.1 >>= fun d => match d with
  | .list ds => match pairsOfD ds with
    | some kvs => if kvs.all (fun p => keyB t p.1) = true then .ok (.dct t (dictOfP kvs), a.2) else .bad
    | none => .bad
  | _ => .bad
theorem pairOf_some {d : PyData} {p : PyData × PyData} (h : pairOf d = some p) : d = .tuple [p.1, p.2] := by
  unfold pairOf at h
  split at h
  · cases h; rfl
  · cases h
section
variable {K : PySem.W.Frag} {F H : Hp}
theorem pairs_has (hs : Same F H) : ∀ {ds : List PyData} {kvs : List (PyData × PyData)} {vs : List V}, pairsOfD ds = some kvs → HasL K F ds vs → (kvs.all fun p => keyB true p.1) = true →
    ∃ (ps : List Addr) (xs : List (List Key × V)), vs = ps.map V.ref ∧ PairsT K H ps xs ∧ D2 K F keyT kvs xs
  | [], kvs, vs, e, h, _ => by
    cases e
    exact ⟨[], [], h.nil_inv, .nil, .nil⟩
  | d :: ds, kvs, vs, e, h, hk => by
    unfold pairsOfD at e
    split at e
    · rename_i p r ep er
      cases e
      obtain ⟨v, vs, rfl, h1, h2⟩ := h.uncons
      simp only [List.all_cons, Bool.and_eq_true] at hk
      obtain ⟨ps, xs, rfl, hp, hd⟩ := pairs_has hs er h2 hk.2
      rw [pairOf_some ep] at h1
      obtain ⟨a, ys, rfl, s, l⟩ := h1.tup_inv
      obtain ⟨u, ys, rfl, u1, l⟩ := l.uncons
      obtain ⟨y, ys, rfl, u2, l⟩ := l.uncons
      cases l.nil_inv
      obtain ⟨ks, ek⟩ : ∃ ks, p.1 = keyT ks := by
        have := hk.1
        cases ep1 : p.1 with
        | tuple l =>
          rw [ep1] at this
          obtain ⟨ks, rfl⟩ := keys_of (l := l) this
          exact ⟨ks, rfl⟩
        | _ => rw [ep1] at this; cases this
      rw [ek] at u1
      obtain ⟨b, rfl, hb⟩ := has_tkey u1
      exact ⟨a :: ps, (ks, y) :: xs, rfl, .cons ⟨b, seqT_mono hs s, hs _ _ hb⟩ hp, .cons ek u2 hd⟩
    · cases e
theorem pairs_hasK (hs : Same F H) : ∀ {ds : List PyData} {kvs : List (PyData × PyData)} {vs : List V}, pairsOfD ds = some kvs → HasL K F ds vs → (kvs.all fun p => keyB false p.1) = true →
    ∃ (ps : List Addr) (xs : List (Key × V)), vs = ps.map V.ref ∧ Paired (fun p kv => SqT K H p [kV kv.1, kv.2]) ps xs ∧ D2 K F keyP kvs xs
  | [], kvs, vs, e, h, _ => by
    cases e
    exact ⟨[], [], h.nil_inv, .nil, .nil⟩
  | d :: ds, kvs, vs, e, h, hk => by
    unfold pairsOfD at e
    split at e
    · rename_i p r ep er
      cases e
      obtain ⟨v, vs, rfl, h1, h2⟩ := h.uncons
      simp only [List.all_cons, Bool.and_eq_true] at hk
      obtain ⟨ps, xs, rfl, hp, hd⟩ := pairs_hasK hs er h2 hk.2
      rw [pairOf_some ep] at h1
      obtain ⟨a, ys, rfl, s, l⟩ := h1.tup_inv
      obtain ⟨u, ys, rfl, u1, l⟩ := l.uncons
      obtain ⟨y, ys, rfl, u2, l⟩ := l.uncons
      cases l.nil_inv
      obtain ⟨ks, ek⟩ : ∃ ks, p.1 = keyP ks := key_of1 hk.1
      rw [ek] at u1
      cases has_key u1
      exact ⟨a :: ps, (ks, y) :: xs, rfl, .cons (seqT_mono hs s) hp, .cons ek u2 hd⟩
    · cases e
theorem d2_merge {κ : Type} [DecidableEq κ] {f : κ → PyData} (hf : ∀ a b, f a = f b → a = b) : ∀ {kvs : List (PyData × PyData)} {xs : List (κ × V)}, D2 K F f kvs xs → ∀ {acc : List (PyData × PyData)} {ys : List (κ × V)}, D2 K F f acc ys →
    D2 K F f (kvs.foldl (fun acc p => putP acc p.1 p.2) acc) (xs.foldl (fun acc kv => putK acc kv.1 kv.2) ys)
  | kvs, [], h, acc, ys, ha => by cases h.nil_inv; exact ha
  | kvs, q :: xs, h, acc, ys, ha => by
    obtain ⟨p, r, rfl, h1, h2, h3⟩ := h.inv
    have := ha.put hf q.1 h2
    rw [← h1] at this
    exact d2_merge hf h3 this
end
section
variable {X : Cx} {W : Wish}
theorem vn_dictPT {p pos : Pos} {e : Expr} {f : FE} (hc : X.calm = true) (hu : X.A.units + 70 < cLine) (hg : Gl X "dict") (hm : X.mg "dict" = none) (h : VE X W e f)
    (he : starEach [e] X.env = (false, eval e X.env) :: starEach [] X.env := by rfl) (hpl : (backTo pos (starEach [] X.env)).any (·.1) = false := by rfl) :
    VN X W (.Call (.Name "dict" p) [e] [] pos) (nDictP true f) := by
  obtain ⟨t, pe, run⟩ := h.run
  refine ⟨_, pe_callTy (call_dictPT hu hc) hg hm (by decide +kernel) (pa_cons (hs := he) pe pa_nil) (by decide) (by decide) he hpl, fun ρ st σ g Q rel k => ?_⟩
  refine run ρ st σ g _ (okN X.K ρ σ Q) _ okN.goes rel k fun d1 st1 v1 g1 e1 r1 h1 k1 => ?_
  obtain ⟨x, px, k2⟩ := peek_bind k1
  cases x with
  | list xs =>
    simp only at k2
    cases ep : pairsOfD xs with
    | none => simp only [ep] at k2; exact k2.elim
    | some kvs =>
      simp only [ep] at k2
      split at k2
      · rename_i hok
        obtain ⟨a, vs, rfl, s, l⟩ := (pk_of r1.wd h1 px).lst
        obtain ⟨ps, ys, rfl, hp, hd⟩ := pairs_has r1.wd.sub ep l hok
        refine ⟨a, ps, ys, rfl, s, hp, fun q hq => okN_new r1 k2 hq ⟨_, rfl, d2_merge keyT_inj hd .nil⟩⟩
      · exact k2.elim
  | _ => exact k2.elim
theorem vn_dictPK {p pos : Pos} {e : Expr} {f : FE} (hc : X.calm = true) (hg : Gl X "dict") (hm : X.mg "dict" = none) (h : VE X W e f)
    (he : starEach [e] X.env = (false, eval e X.env) :: starEach [] X.env := by rfl) (hpl : (backTo pos (starEach [] X.env)).any (·.1) = false := by rfl) :
    VN X W (.Call (.Name "dict" p) [e] [] pos) (nDictP false f) := by
  obtain ⟨t, pe, run⟩ := h.run
  refine ⟨_, pe_callTy (call_dictP hc) hg hm (by decide +kernel) (pa_cons (hs := he) pe pa_nil) (by decide) (by decide) he hpl, fun ρ st σ g Q rel k => ?_⟩
  refine run ρ st σ g _ (okN X.K ρ σ Q) _ okN.goes rel k fun d1 st1 v1 g1 e1 r1 h1 k1 => ?_
  obtain ⟨x, px, k2⟩ := peek_bind k1
  cases x with
  | list xs =>
    simp only at k2
    cases ep : pairsOfD xs with
    | none => simp only [ep] at k2; exact k2.elim
    | some kvs =>
      simp only [ep] at k2
      split at k2
      · rename_i hok
        obtain ⟨a, vs, rfl, s, l⟩ := (pk_of r1.wd h1 px).lst
        obtain ⟨ps, ys, rfl, hp, hd⟩ := pairs_hasK r1.wd.sub ep l hok
        refine ⟨a, ps, ys, rfl, s, hp, fun q hq => okN_new r1 k2 hq ⟨_, rfl, d2_merge keyP_inj hd .nil⟩⟩
      · exact k2.elim
  | _ => exact k2.elim
end
/-! ### a def that calls itself: by the turns that are left -/
theorem fn_zero {P : Program} {w : World} {K : PySem.W.Frag} {mg : Str → Option Value} {base : Heap} {x qual : Str} {sd : Stmt} {fa : Addr} {fd : FuncData} {N ps : List Str} (F : Fun K x qual sd fa fd) (S : FnScope N ps (defScope sd)) :
    FnOk P w K mg base CX0 0 fa fd ps (spV K noX ps.length (fun _ _ => .bad)) :=
  ⟨fun vs H Q E hh => hh.1, fun A outer s H args us vs Q E hr e0 hb hv hh => by
    obtain ⟨hl, ds, st, g, rfl, w, hv, kk⟩ := hh
    exact kk.elim⟩
end VL

namespace VL
open PySem PySem.Spec PyProof.Rows L2

/-! ### list comprehensions of two clauses -/
open Classical in
noncomputable def lcG2 (s : Src) (gt : FG) (tt : FT) (fi1 : FI) (gt1 : FG) (tt1 : FT) (fe : FE) (vs1 : List Nat) (ρ : Slots) : List PyData → Store → R (List PyData × Store)
  | [], st => if s.Ok st then .ok ([], st) else .bad
  | d :: r, st => if s.Ok st then gt (.p d) ρ st >>= fun ρ1 => tt ρ1 st >>= fun b => if b.1 = true then fi1 ρ1 b.2 >>= fun a => lcG a.1 gt1 tt1 fe (wipeV ρ1 vs1) a.1.ds a.2 >>= fun x => lcG2 s gt tt fi1 gt1 tt1 fe vs1 ρ r x.2 >>= fun y => .ok (x.1 ++ y.1, y.2)
    else lcG2 s gt tt fi1 gt1 tt1 fe vs1 ρ r b.2 else .bad
noncomputable def nLc2 (fi : FI) (gt : FG) (tt : FT) (fi1 : FI) (gt1 : FG) (tt1 : FT) (fe : FE) (vs vs1 : List Nat) : FN := fun ρ st => fi ρ st >>= fun a => (lcG2 a.1 gt tt fi1 gt1 tt1 fe vs1 (wipeV ρ vs) a.1.ds a.2).only fun b => if b.1.length ≤ LIM then .ok (.lst b.1, b.2) else .bad
section
variable {X : Cx} {W : Wish}
theorem lc2_read {K : PySem.W.Frag} {fi fi1 : FI} {gt gt1 : FG} {tt tt1 : FT} {fe : FE} {vs ws vs1 ws1 : List Nat} {wi : TI} (hws : ∀ j ∈ ws, j ∈ vs) (hws1 : ∀ j ∈ ws1, j ∈ vs1)
    (runI : ∀ ρ st σ g P, Rel K ρ st σ g → KR (WN K W ρ σ g) (okI K ρ σ P g) (fi ρ st) → wi σ g.H P) :
    RN K W (tLc2 wi (gOf K ws gt) (ttOf K noW tt) (wiOf K noW fi1) (gOf K ws1 gt1) (ttOf K noW tt1) (tOf K noW fe) vs vs1) (nLc2 fi gt tt fi1 gt1 tt1 fe vs vs1) := by
  intro ρ st σ g Q rel k
  refine runI ρ st σ g _ rel (KR.mono (KR.bind k) (fun a ha J g1 e1 r1 o1 w1 D hD => ?_) fun n s hn => hn)
  obtain ⟨s, st1⟩ := a
  have ha : KR (WN K W ρ σ g) (okN K ρ σ Q g) ((lcG2 s gt tt fi1 gt1 tt1 fe vs1 (wipeV ρ vs) s.ds st1).only fun b => if b.1.length ≤ LIM then .ok (.lst b.1, b.2) else .bad) := ha
  have hF1 : g1.F D = none := r1.wd.sub.free hD
  have hA1 : D ∉ g1.A := fun hm => by
    obtain ⟨x, hx⟩ := r1.wd.there D hm
    rw [hD] at hx; cases hx
  refine ⟨fun i m H => ∃ st' g' acc xs, g'.H = H ∧ Ext g1 g' ∧ Wd K st' g' ∧ i ≤ s.ds.length ∧ m = s.ds.length - i ∧ g'.H D = some (.lst xs) ∧ g'.F D = none ∧ D ∉ g'.A ∧ HasL K g'.F acc xs ∧
      KR no (fun b => acc.length + b.1.length ≤ LIM ∧ okN K ρ σ Q g (.lst (acc ++ b.1), b.2)) (lcG2 s gt tt fi1 gt1 tt1 fe vs1 (wipeV ρ vs) (s.ds.drop i) st'),
    ⟨s.ds.length, st1, ⟨g1.F, g1.A, upd g1.H D (.lst [])⟩, [], [], rfl, ext_over (Ext.refl g1) hD _, wd_over r1.wd hF1 hA1 (fun ps z => by rw [hD] at z; cases z) _, Nat.zero_le _, rfl, upd_same, hF1, hA1, .nil, ?_⟩, ?_⟩
  · rw [List.drop_zero]
    refine KR.mono (R.only_of ha) (fun b hb => ?_) fun _ _ z => z
    split at hb
    · rename_i hl
      exact ⟨by simpa using hl, hb⟩
    · exact hb.elim
  rintro i m H ⟨st', g', acc, xs, rfl, e', w', hi, rfl, hDH, hDF, hDA, hacc, k'⟩
  have sl' : Sl K g' ρ σ := r1.sl.ext e'
  by_cases hlt : i < s.ds.length
  · rw [List.drop_eq_getElem_cons hlt] at k'
    unfold lcG2 at k'
    split at k'
    · rename_i ok
      obtain ⟨go, stop, yld⟩ := w1 st' g' e'.w w' ok
      refine .inr ⟨go i hlt, fun H2 => ∃ st2 g2 acc2 xs2, g2.H = H2 ∧ Ext g1 g2 ∧ Wd K st2 g2 ∧ g2.H D = some (.lst xs2) ∧ g2.F D = none ∧ D ∉ g2.A ∧ HasL K g2.F acc2 xs2 ∧
          KR no (fun b => acc2.length + b.1.length ≤ LIM ∧ okN K ρ σ Q g (.lst (acc2 ++ b.1), b.2)) (lcG2 s gt tt fi1 gt1 tt1 fe vs1 (wipeV ρ vs) (s.ds.drop (i + 1)) st2),
        fun H2 ⟨st2, g2, acc2, xs2, q1, q2, q3, q4, q5, q6, q7, q8⟩ => ⟨s.ds.length - (i + 1), by omega, st2, g2, acc2, xs2, q1, q2, q3, hlt, rfl, q4, q5, q6, q7, q8⟩, fun x H2 hy => ?_⟩
      obtain ⟨g2, rfl, e2, w2, hx⟩ := yld i x H2 s.ds[i] (List.getElem?_eq_getElem hlt) hy
      refine ⟨wipeV ρ vs, st', g2, .p s.ds[i], rfl, ⟨w2, (sl'.ext e2).wipe vs⟩, hx, ?_⟩
      refine KR.mono (KR.bind k') (fun ρ1 h1 σ1 b1 r1' => ⟨wipe_but b1 hws, ρ1, st', g2, rfl, r1', ?_⟩) fun _ _ z => z
      refine KR.mono (KR.bind h1) (fun b hb g3 e3 r3 => ?_) fun _ _ z => z.elim
      obtain ⟨b, st3⟩ := b
      have E3 : Ext g1 g3 := (e'.trans e2).trans e3
      have E23 : Ext g' g3 := e2.trans e3
      cases b with
      | true =>
        rw [if_pos rfl]
        simp only [if_true] at hb
        refine ⟨ρ1, st3, g3, rfl, r3, KR.mono (KR.bind hb) (fun a ha J1 g4 e4 r4 o4 w4 => ?_) fun _ _ z => z.elim⟩
        obtain ⟨s1, st4⟩ := a
        have k4 := KR.bind ha
        have E34 : Ext g' g4 := E23.trans e4
        refine ⟨fun j kk H => ∃ st5 g5 acc5 xs5, g5.H = H ∧ ExtW g4 g5 ∧ Ext g1 g5 ∧ Wd K st5 g5 ∧ j ≤ s1.ds.length ∧ kk = s1.ds.length - j ∧ g5.H D = some (.lst xs5) ∧ g5.F D = none ∧ D ∉ g5.A ∧ HasL K g5.F acc5 xs5 ∧
            KR no (fun b => KR no (fun y => acc5.length + (b.1.length + y.1.length) ≤ LIM ∧ okN K ρ σ Q g (.lst (acc5 ++ (b.1 ++ y.1)), y.2)) (lcG2 s gt tt fi1 gt1 tt1 fe vs1 (wipeV ρ vs) (s.ds.drop (i + 1)) b.2)) (lcG s1 gt1 tt1 fe (wipeV ρ1 vs1) (s1.ds.drop j) st5),
          ⟨s1.ds.length, st4, g4, acc, xs, rfl, (Ext.refl g4).w, E3.trans e4, r4.wd, Nat.zero_le _, rfl, E34.keep D _ hDH (fun _ z => by cases z) hDA, E34.raw D _ ⟨hDH, fun _ z => by cases z⟩ hDA hDF, E34.nin hDH hDA, hacc.mono E34.frz, ?_⟩, ?_⟩
        · rw [List.drop_zero]
          refine KR.mono k4 (fun b hb => ?_) fun _ _ z => z
          refine KR.mono (KR.bind hb) (fun y hy => ?_) fun _ _ z => z
          have hy : acc.length + (b.1 ++ y.1).length ≤ LIM ∧ okN K ρ σ Q g (.lst (acc ++ (b.1 ++ y.1)), y.2) := hy
          rw [List.length_append] at hy
          exact hy
        rintro j kk H ⟨st5, g5, acc5, xs5, rfl, e5, E15, w5, hj, rfl, hDH5, hDF5, hDA5, hacc5, k5⟩
        have sl5 : Sl K g5 ρ1 σ1 := r4.sl.mono e5.frz (let ⟨B, h, _⟩ := e5.new; ⟨B, h.symm⟩)
        by_cases hjl : j < s1.ds.length
        · rw [List.drop_eq_getElem_cons hjl] at k5
          unfold lcG at k5
          split at k5
          · rename_i ok1
            obtain ⟨go1, stop1, yld1⟩ := w4 st5 g5 e5 w5 ok1
            refine .inr ⟨go1 j hjl, fun H2 => ∃ st6 g6 acc6 xs6, g6.H = H2 ∧ ExtW g4 g6 ∧ Ext g1 g6 ∧ Wd K st6 g6 ∧ g6.H D = some (.lst xs6) ∧ g6.F D = none ∧ D ∉ g6.A ∧ HasL K g6.F acc6 xs6 ∧
                KR no (fun b => KR no (fun y => acc6.length + (b.1.length + y.1.length) ≤ LIM ∧ okN K ρ σ Q g (.lst (acc6 ++ (b.1 ++ y.1)), y.2)) (lcG2 s gt tt fi1 gt1 tt1 fe vs1 (wipeV ρ vs) (s.ds.drop (i + 1)) b.2)) (lcG s1 gt1 tt1 fe (wipeV ρ1 vs1) (s1.ds.drop (j + 1)) st6),
              fun H2 ⟨st2, g2, acc2, xs2, q1, q2, q2', q3, q4, q5, q6, q7, q8⟩ => ⟨s1.ds.length - (j + 1), by omega, st2, g2, acc2, xs2, q1, q2, q2', q3, hjl, rfl, q4, q5, q6, q7, q8⟩, fun x H2 hy => ?_⟩
            obtain ⟨g6, rfl, e6, w6, hx6⟩ := yld1 j x H2 s1.ds[j] (List.getElem?_eq_getElem hjl) hy
            refine ⟨wipeV ρ1 vs1, st5, g6, .p s1.ds[j], rfl, ⟨w6, (sl5.ext e6).wipe vs1⟩, hx6, ?_⟩
            refine KR.mono (KR.bind k5) (fun ρ2 h2 σ2 b2 r2 => ⟨wipe_but b2 hws1, ρ2, st5, g6, rfl, r2, ?_⟩) fun _ _ z => z
            refine KR.mono (KR.bind h2) (fun b hb g7 e7 r7 => ?_) fun _ _ z => z.elim
            obtain ⟨b, st7⟩ := b
            have E57 : Ext g5 g7 := e6.trans e7
            have E47 : ExtW g4 g7 := e5.trans E57.w
            cases b with
            | true =>
              rw [if_pos rfl]
              simp only [if_true] at hb
              refine ⟨ρ2, st7, g7, rfl, r7, KR.mono (KR.bind hb) (fun a ha v g8 e8 r8 hv => ?_) fun _ _ z => z.elim⟩
              obtain ⟨⟨d, st9⟩, px, k9⟩ := frz_bind ha
              obtain ⟨g9, eH, e9, r9, h9⟩ := frz_ok r8 hv px
              have E59 : Ext g5 g9 := (E57.trans e8).trans e9
              have hD9 : g9.H D = some (.lst xs5) := E59.keep D _ hDH5 (fun _ z => by cases z) hDA5
              have hF9 : g9.F D = none := E59.raw D _ ⟨hDH5, fun _ z => by cases z⟩ hDA5 hDF5
              have hA9 : D ∉ g9.A := E59.nin hDH5 hDA5
              have k10 := KR.bind k9
              have len : acc5.length + 1 ≤ LIM := by
                cases eq : lcG s1 gt1 tt1 fe (wipeV ρ1 vs1) (List.drop (j + 1) s1.ds) st9 with
                | bad => simp only [eq] at k10; exact k10.elim
                | exc n z => simp only [eq] at k10; exact k10.elim
                | ok b =>
                  simp only [eq] at k10
                  have k11 : KR no (fun y => acc5.length + ((d :: b.1).length + y.1.length) ≤ LIM ∧ okN K ρ σ Q g (.lst (acc5 ++ (d :: b.1 ++ y.1)), y.2)) (lcG2 s gt tt fi1 gt1 tt1 fe vs1 (wipeV ρ vs) (s.ds.drop (i + 1)) b.2) := k10
                  cases eq2 : lcG2 s gt tt fi1 gt1 tt1 fe vs1 (wipeV ρ vs) (s.ds.drop (i + 1)) b.2 with
                  | bad => rw [eq2] at k11; exact k11.elim
                  | exc n z => rw [eq2] at k11; exact k11.elim
                  | ok y =>
                    rw [eq2] at k11
                    have := k11.1
                    simp only [List.length_cons] at this
                    omega
              refine ⟨xs5, by rw [← eH]; exact hD9, ?_, st9, ⟨g9.F, g9.A, upd g9.H D (.lst (xs5 ++ [v]))⟩, acc5 ++ [d], xs5 ++ [v], by rw [eH], ⟨(e5.trans E59.w).frz, (e5.trans E59.w).new⟩, ext_over (E15.trans E59) hD _, wd_over r9.wd hF9 hA9 (fun ps z => by rw [hD9] at z; cases z) _, upd_same, hF9, hA9, (hacc5.mono E59.frz).append (.singleton h9), ?_⟩
              · rw [hacc5.1, lim_eq]; omega
              · refine KR.mono k10 (fun b hb => ?_) fun _ _ z => z
                have hb : KR no (fun y => acc5.length + ((d :: b.1).length + y.1.length) ≤ LIM ∧ okN K ρ σ Q g (.lst (acc5 ++ (d :: b.1 ++ y.1)), y.2)) (lcG2 s gt tt fi1 gt1 tt1 fe vs1 (wipeV ρ vs) (s.ds.drop (i + 1)) b.2) := hb
                refine KR.mono hb (fun y hy => ?_) fun _ _ z => z
                rw [List.append_assoc, List.length_append]
                exact ⟨by have := hy.1; simp only [List.length_cons, List.length_nil] at this ⊢; omega, hy.2⟩
            | false =>
              rw [if_neg Bool.false_ne_true]
              simp only [Bool.false_eq_true, if_false] at hb
              exact ⟨st7, g7, acc5, xs5, rfl, E47, E15.trans E57, r7.wd, E57.keep D _ hDH5 (fun _ z => by cases z) hDA5, E57.raw D _ ⟨hDH5, fun _ z => by cases z⟩ hDA5 hDF5, E57.nin hDH5 hDA5, hacc5.mono E57.frz, hb⟩
          · exact k5.elim
        · have ej : j = s1.ds.length := by omega
          subst ej
          rw [List.drop_length] at k5
          unfold lcG at k5
          split at k5
          · rename_i ok1
            obtain ⟨go1, stop1, yld1⟩ := w4 st5 g5 e5 w5 ok1
            refine .inl ⟨stop1 _ (Nat.le_refl _), st5, g5, acc5, xs5, rfl, E15, w5, hDH5, hDF5, hDA5, hacc5, ?_⟩
            have k6 : KR no (fun y => acc5.length + (([] : List PyData).length + y.1.length) ≤ LIM ∧ okN K ρ σ Q g (.lst (acc5 ++ ([] ++ y.1)), y.2)) (lcG2 s gt tt fi1 gt1 tt1 fe vs1 (wipeV ρ vs) (s.ds.drop (i + 1)) st5) := k5
            refine KR.mono k6 (fun y hy => ?_) fun _ _ z => z
            rw [List.length_nil, Nat.zero_add, List.nil_append] at hy
            exact hy
          · exact k5.elim
      | false =>
        rw [if_neg Bool.false_ne_true]
        simp only [Bool.false_eq_true, if_false] at hb
        exact ⟨st3, g3, acc, xs, rfl, E3, r3.wd, E23.keep D _ hDH (fun _ z => by cases z) hDA, E23.raw D _ ⟨hDH, fun _ z => by cases z⟩ hDA hDF, E23.nin hDH hDA, hacc.mono E23.frz, hb⟩
    · exact k'.elim
  · have ei : i = s.ds.length := by omega
    subst ei
    rw [List.drop_length] at k'
    unfold lcG2 at k'
    split at k'
    · rename_i ok
      obtain ⟨go, stop, yld⟩ := w1 st' g' e'.w w' ok
      refine .inl ⟨stop _ (Nat.le_refl _), ?_⟩
      have k'' := k'.2
      rw [List.append_nil] at k''
      exact k'' D (.lst xs) g' (e1.trans e') ⟨w', sl'⟩ (e1.there D hD) hDH hDF hDA ⟨xs, rfl, hacc⟩
    · exact k'.elim
abbrev BlkV (X : Cx) (scope : Scope) (P : Cx → Prop) : Prop := ∀ (s : Shared) (H : Hp) (C : Addr) (cl : List (Str × Addr)) (fp : List Addr), P (X.blk s H scope (compEnvC scope cl C X.env) fp)
theorem vn_lc2 {elt tg iter tg1 iter1 : Expr} {ifs ifs1 : List Expr} {scope : Scope} {own : List (Str × Nat)} {pos : Pos} {fi fi1 : FI} {gt gt1 : FG} {tt tt1 : FT} {fe : FE} {ws vs ws1 vs1 : List Nat} (hc : X.calm = true) (hN : X.N.Nodup) (hi : VI X W tg iter fi) (ok : BlkOk X.N X.env.scope scope own)
    (hg : BlkV X scope fun Y => VG Y ws tg gt) (ht : BlkV X scope fun Y => VTs Y noW ifs tt) (hi1 : BlkV X scope fun Y => VI Y noW tg1 iter1 fi1) (hg1 : BlkV X scope fun Y => VG Y ws1 tg1 gt1) (ht1 : BlkV X scope fun Y => VTs Y noW ifs1 tt1)
    (he : BlkV X scope fun Y => VE Y noW elt fe) (hws : ∀ j ∈ ws, j ∈ vs := by decide) (hws1 : ∀ j ∈ ws1, j ∈ vs1 := by decide) (hvs : own.map (·.2) = vs := by rfl) (hv1 : ∀ i ∈ vs1, i ∈ vs := by decide) (hs : ∀ x, foldedSetIterable iter X.env x = pure x := by intro _; rfl) (hs1 : ∀ env x, foldedSetIterable iter1 env x = pure x := by intro _ _; rfl) :
    VN X W (.ListComp elt [⟨tg, iter, ifs, 0⟩, ⟨tg1, iter1, ifs1, 0⟩] scope pos) (nLc2 fi gt tt fi1 gt1 tt1 fe vs vs1) := by
  subst hvs
  obtain ⟨wi, pi, runI⟩ := hi
  exact ⟨_, pe_lc2 hc hN pi ok hv1 (fun s H C cl fp => (hg s H C cl fp).pg) (tt := ttOf X.K noW tt) (fun s H C cl fp => ht s H C cl fp) (fun s H C cl fp => (hi1 s H C cl fp).pi) (fun s H C cl fp => (hg1 s H C cl fp).pg) (tt1 := ttOf X.K noW tt1) (fun s H C cl fp => ht1 s H C cl fp) (fun s H C cl fp => (he s H C cl fp).pe) hs hs1, lc2_read hws hws1 runI⟩
theorem vs_setLc2 {i : Nat} {y : Str} {py : Pos} {elt tg iter tg1 iter1 : Expr} {ifs ifs1 : List Expr} {scope : Scope} {own : List (Str × Nat)} {pos spos : Pos} {fi fi1 : FI} {gt gt1 : FG} {tt tt1 : FT} {fe : FE} {ws vs ws1 vs1 : List Nat} {f : FN → FE} (hf : ∀ {t : TE} {h : FN}, RN X.K W t h → RE X.K W t (f h)) (hc : X.calm = true) (hN : X.N.Nodup) (hy : X.N[i]? = some y) (hyl : X.env.scope.names.lookup y = some .local)
    (hi : VI X W tg iter fi) (ok : BlkOk X.N X.env.scope scope own)
    (hg : BlkV X scope fun Y => VG Y ws tg gt) (ht : BlkV X scope fun Y => VTs Y noW ifs tt) (hi1 : BlkV X scope fun Y => VI Y noW tg1 iter1 fi1) (hg1 : BlkV X scope fun Y => VG Y ws1 tg1 gt1) (ht1 : BlkV X scope fun Y => VTs Y noW ifs1 tt1)
    (he : BlkV X scope fun Y => VE Y noW elt fe) (hws : ∀ j ∈ ws, j ∈ vs := by decide) (hws1 : ∀ j ∈ ws1, j ∈ vs1 := by decide) (hvs : own.map (·.2) = vs := by rfl) (hv1 : ∀ i ∈ vs1, i ∈ vs := by decide) (hs : ∀ x, foldedSetIterable iter X.env x = pure x := by intro _; rfl) (hs1 : ∀ env x, foldedSetIterable iter1 env x = pure x := by intro _ _; rfl)
    (hk : X.env.scope.kind = .function := by rfl) (hl : (py.line == pos.line) = true := by rfl) (ha : (scope.names.any fun (n, k) => n == y && (k == .local || k == .cell)) = false := by decide) :
    VS X W (.Assign [.Name y py] (.ListComp elt [⟨tg, iter, ifs, 0⟩, ⟨tg1, iter1, ifs1, 0⟩] scope pos) spos) (sSet i (f (nLc2 fi gt tt fi1 gt1 tt1 fe vs vs1))) := by
  subst hvs
  obtain ⟨wi, pi, runI⟩ := hi
  exact ⟨_, ps_setLc2 hc hN hy hyl (sw_true hk hyl hl ha) pi ok hv1 (fun s H C cl fp => (hg s H C cl fp).pg) (tt := ttOf X.K noW tt) (fun s H C cl fp => ht s H C cl fp) (fun s H C cl fp => (hi1 s H C cl fp).pi) (fun s H C cl fp => (hg1 s H C cl fp).pg) (tt1 := ttOf X.K noW tt1) (fun s H C cl fp => ht1 s H C cl fp) (fun s H C cl fp => (he s H C cl fp).pe) hs hs1, fun ρ st σ g D rel k => rs_set (hf (lc2_read hws hws1 runI)) ρ st σ g D rel k⟩
end
end VL

namespace PySem.VLR
open PySem
theorem lri_no_len : typeLookup (.type "list_reverseiterator") "__len__" = pure none := am_miss_of_fast (by decide +kernel)
theorem lri_hint : typeLookup (.type "list_reverseiterator") "__length_hint__" = pure (some (.builtin "list_reverseiterator.__length_hint__")) := by rw [typeLookup_type, builtinLookup_eq_fast]; kernel_rfl
section
variable {prog : Program} {w : World} {A : Around} {E : Value → Shared → Prop} {s : Shared}
theorem hint_rev {r : Addr} {Q : Bool → Shared → Prop} (hT : s.TypeIs (.ref r) "list_reverseiterator") (h : Q false s) : wpAny (model prog w) A (Builtin.List.listLengthHint (.ref r)) Q E s := by
  unfold Builtin.List.listLengthHint
  refine wpAny_bind (wpAny_specialOf hT lri_no_len ?_)
  show wpAny _ A (specialOf (Value.ref r) (Str.ofString "__length_hint__") >>= _) _ _ _
  refine wpAny_bind (wpAny_specialOf hT lri_hint ?_)
  generalize hid : ("list_reverseiterator.__length_hint__" : String) = id0
  wp_delta
  rw [show splitId id0 = some ("list_reverseiterator", "__length_hint__") from by subst hid; decide +kernel]
  subst hid
  refine wpAny_bind (wpAny_isInstance (T := "list_reverseiterator") (b := true) hT (by rw [isSubtype_type]; kernel_rfl) ?_)
  refine wpAny_ite_split (fun hab => absurd hab (by decide)) (fun _ => ?_)
  refine wpAny_ite_split (fun _ => ?_) (fun hab => absurd (by decide +kernel) hab)
  refine wpAny_ite_split (fun hab => absurd hab (by decide +kernel)) (fun _ => ?_)
  exact wpAny_pure h
abbrev RevItem (items : Array Value) (i : Nat) (v : Value) : Prop := items[items.size - 1 - i]? = some v
theorem rev_extend {R : Result → Shared → Prop} {I l : Addr} {items : Array Value} (hh : A.handled = none) (hit : s.heap.IsRevIter I l ((items.size : Int) - 1)) (hl : s.heap.IsList l items) (hIl : l ≠ I) (S : Addr) (hSI : S ≠ I) (hSl : S ≠ l) (res : Value) (c₀ : Nat) (hS : s.heap.get? S = some { cls := .type "list", data := .seq #[] c₀ })
    (hR : ∀ h' tk acc' c', (∀ b o, b ≠ S → b ≠ I → s.heap.get? b = some o → h'.get? b = some o) → h'.get? S = some { cls := .type "list", dict := none, data := .seq acc' c', slots := #[] } → ItemsOf (RevItem items) acc' items.size → R (.ok (.ret res)) { s with heap := h', toks := tk }) (hn : items.size ≤ sizeLine) :
    wpAny (model prog w) A.in1 (Builtin.List.listExtendWith (.ref S) (.ref I) res)
      (fun fin s' => match fin with | .done f => R (.ok f) s' | .again c' => c'.quiet = true ∧ codeAny (model prog w) A c' R s') (fun e s' => R (.error e) s') s := by
  have hSf : S ∉ [I, l] := by simp only [List.mem_cons, List.not_mem_nil, or_false, not_or]; exact ⟨hSI, hSl⟩
  have W := (Walks.listRev (prog := prog) (w := w) (A := A.in1) hh I l hIl items).toS
  have key : ∀ (h : Heap) (c₁ tk : Nat), h.IsRevIter I l ((items.size : Int) - 1) → h.IsList l items → (∀ b o, b ≠ S → s.heap.get? b = some o → h.get? b = some o) →
      h.get? S = some { cls := .type "list", data := .seq #[] c₁ } → codeAny (model prog w) A (.builtin "list.extend.loop" ⟨[.ref S, .ref I, res], []⟩) R { s with heap := h, toks := tk } := by
    intro h c₁ tk hst hl hk hS₁
    refine codeAny_extend_loopS W hn S hSf res items.size 0 _ #[] c₁ rfl (Nat.zero_le _) ⟨Nat.zero_le _, by simpa using hst, hl⟩ hS₁ (ItemsOf.nil _) fun s' acc' c' hm hS' hacc => ?_
    rw [Moved.eq_with hm]
    refine hR s'.heap s'.toks acc' c' (fun b o hb hbI e => hm.heap b o (fun hmem => ?_) (hk b o hb e)) hS' hacc
    rcases List.mem_cons.mp hmem with e' | hmem
    · exact hb e'
    · exact hbI (List.mem_singleton.mp hmem)
  unfold Builtin.List.listExtendWith
  refine wpAny_bind (wpAny_typeOf (T := "list_reverseiterator") hit.typeIs ?_)
  have h1 : Builtin.List.listSameRef (.ref S) (.ref I) = false := by simp [Builtin.List.listSameRef, hSI]
  have h2 : (Value.type "list_reverseiterator" == Value.type "list") = false := by decide
  have h3 : (Value.type "list_reverseiterator" == Value.type "tuple") = false := by decide
  simp only [h1, h2, h3, Bool.or_false, Bool.false_eq_true, if_false]
  refine wpAny_bind (wpAny_pyIter_revIter hit ?_)
  refine wpAny_bind (wpAny_holding (hint_rev hit.typeIs ?_))
  refine wpAny_ite_split (fun _ => ?_) (fun _ => wpAny_pure ⟨plainId_quiet F.plain_extend_loop _, key _ c₀ _ hit hl (fun b o _ e => e) hS⟩)
  refine wpAny_bind (wpAny_rule ?_)
  refine wpAny_bind ?_
  show wpAny _ _ (updateSeq S (·.push .none) >>= fun _ => updateSeq S (·.pop)) _ _ _
  refine wpAny_bind (wpAny_updateSeq hS rfl ?_)
  have hS₂ := Heap.get?_update_self (Obj.mapSeq (·.push Value.none)) hS rfl
  refine wpAny_updateSeq (hz := by seq_fits) hS₂ rfl ?_
  have hS₃ := Heap.get?_update_self (Obj.mapSeq (·.pop)) hS₂ rfl
  have oth : ∀ b o, b ≠ S → s.heap.get? b = some o → ((s.heap.update S (Obj.mapSeq (·.push Value.none))).update S (Obj.mapSeq (·.pop))).get? b = some o :=
    fun b o hb e => (Heap.get?_update_other _ _ (Ne.symm hb)).trans ((Heap.get?_update_other _ _ (Ne.symm hb)).trans e)
  exact wpAny_pure ⟨plainId_quiet F.plain_extend_loop _, key _ _ _ (hit.at fun o e => oth _ _ (Ne.symm hSI) e) (hl.at fun o e => oth _ _ (Ne.symm hSl) e) oth hS₃⟩
theorem rev_init {R : Result → Shared → Prop} {I l : Addr} {items : Array Value} (hh : A.handled = none) (hit : s.heap.IsRevIter I l ((items.size : Int) - 1)) (hl : s.heap.IsList l items) (hIl : l ≠ I) (S : Addr) (hSI : S ≠ I) (hSl : S ≠ l) (hS : s.heap.get? S = some { cls := .type "list", data := .seq #[] })
    (hR : ∀ h' tk acc' c', (∀ b o, b ≠ S → b ≠ I → s.heap.get? b = some o → h'.get? b = some o) → h'.get? S = some { cls := .type "list", dict := none, data := .seq acc' c', slots := #[] } → ItemsOf (RevItem items) acc' items.size → R (.ok (.ret .none)) { s with heap := h', toks := tk }) (hn : items.size ≤ sizeLine) :
    wpAny (model prog w) A.in1 (Builtin.«list.__init__» ⟨[.ref S, .ref I], []⟩)
      (fun fin s' => match fin with | .done f => R (.ok f) s' | .again c' => c'.quiet = true ∧ codeAny (model prog w) A c' R s') (fun e s' => R (.error e) s') s := by
  show wpAny _ _ (do let old ← Builtin.List.listItems (.ref S); Builtin.List.listUpdate (.ref S) (fun _ => #[]); letGo old.toList.reverse; Builtin.List.listExtendWith (.ref S) (.ref I) .none) _ _ s
  refine wpAny_bind ?_
  unfold Builtin.List.listItems
  refine wpAny_bind (wpAny_seqItems hS rfl (wpAny_pure ?_))
  show wpAny _ _ (updateSeq S (fun _ => #[]) >>= fun _ => letGo (#[] : Array Value).toList.reverse >>= fun _ => Builtin.List.listExtendWith (.ref S) (.ref I) .none) _ _ s
  refine wpAny_bind (wpAny_updateSeq hS rfl ?_)
  have hS₂ := Heap.get?_update_self (Obj.mapSeq (fun _ => (#[] : Array Value))) hS rfl
  have oth : ∀ b o, b ≠ S → s.heap.get? b = some o → (s.heap.update S (Obj.mapSeq (fun _ => (#[] : Array Value)))).get? b = some o :=
    fun b o hb e => (Heap.get?_update_other _ _ (Ne.symm hb)).trans e
  refine wpAny_bind (wpAny_letGo ?_)
  refine rev_extend hh (hit.at fun o e => oth _ _ (Ne.symm hSI) e) (hl.at fun o e => oth _ _ (Ne.symm hSl) e) hIl S hSI hSl .none _ hS₂ (fun h' tk acc' c' hk hS' hacc => ?_) hn
  exact hR h' tk acc' c' (fun b o hb hbI e => hk b o hb hbI (oth b o hb e)) hS' hacc
theorem call_list_rev {Q : Value → Shared → Prop} {I l : Addr} {items : Array Value} (hh : A.handled = none) (hit : s.heap.IsRevIter I l ((items.size : Int) - 1)) (hl : s.heap.IsList l items) (hIl : l ≠ I) (hn : items.size ≤ sizeLine)
    (hQ : ∀ h' tk acc' c', (∀ b o, b ≠ I → s.heap.get? b = some o → h'.get? b = some o) → h'.get? s.heap.objs.size = some { cls := .type "list", dict := none, data := .seq acc' c', slots := #[] } → ItemsOf (RevItem items) acc' items.size → Q (.ref s.heap.objs.size) { s with heap := h', toks := tk }) :
    wpAny (model prog w) A (call (.type "list") [.ref I]) Q E s := by
  refine callType_codes (Q₁ := fun obj s₁ => obj = .ref s.heap.objs.size ∧ s₁ = { s with heap := s.heap.push { cls := .type "list", data := .seq #[] } }) PySem.F.called_list (PySem.F.typeCall_list_1 _) PySem.F.entry_list_init
    (code_list_new _ ⟨rfl, rfl⟩) fun obj s₁ h₁ => ?_
  obtain ⟨rfl, rfl⟩ := h₁
  have hS : (s.heap.push { cls := .type "list", data := .seq #[] }).get? s.heap.objs.size = some { cls := .type "list", data := .seq #[] } := Heap.get?_push_size _ rfl
  have hI : I < s.heap.objs.size := by obtain ⟨o, ho, _⟩ := hit; exact Heap.lt_size ho
  have hL : l < s.heap.objs.size := by obtain ⟨o, ho, _⟩ := hl; exact Heap.lt_size ho
  refine ⟨⟨_, hS, rfl⟩, PySem.F.args_list_init_2 _ _, rev_init (A := A.in1) hh (hit.at fun o e => Heap.get?_push_of_some _ e) (hl.at fun o e => Heap.get?_push_of_some _ e) hIl _ (Nat.ne_of_gt hI) (Nat.ne_of_gt hL) hS (fun h' tk acc' c' hk hS' hacc => ?_) hn⟩
  exact ⟨rfl, hQ h' tk acc' c' (fun b o hb e => hk b o (Nat.ne_of_lt (Heap.lt_size e)) hb (Heap.get?_push_of_some _ e)) hS' hacc⟩
end
end PySem.VLR
namespace VL
open PySem PySem.Spec PyProof.Rows L2
section
variable {X : Cx} {W : Wish}
def tListRev (K : PySem.W.Frag) (te : TE) : TE := fun σ H Q => te σ H fun x H1 => ∃ a xs, x = .ref a ∧ SqL K H1 a xs ∧ ∀ p, H1 p = none → Q (.ref p) (upd H1 p (.lst xs.reverse))
theorem vals_rev_items {xs : List V} {its : List Value} (r : Vals xs its) {acc : Array Value} (h : ItemsOf (PySem.VLR.RevItem its.toArray) acc its.toArray.size) : Vals xs.reverse acc.toList := by
  have hl := r.length
  have e : acc.toList = its.reverse := by
    apply List.ext_getElem?
    intro j
    by_cases hj : j < its.length
    · have hja : j < acc.size := by rw [h.1]; simpa using hj
      have := h.2 j acc[j] (Array.getElem?_eq_getElem hja)
      rw [List.getElem?_reverse hj]
      have h2 : its[its.length - 1 - j]? = some acc[j] := by simpa [PySem.VLR.RevItem] using this
      rw [h2, Array.getElem?_toList, Array.getElem?_eq_getElem hja]
    · have h1 : acc.size = its.length := by rw [h.1]; simp
      rw [List.getElem?_eq_none (by rw [Array.length_toList]; omega), List.getElem?_eq_none (by rw [List.length_reverse]; omega)]
  rw [e]
  exact vals_rev r
theorem pe_listRev {e : Expr} {te : TE} {p p2 pos pos2 : Pos} (hc : X.calm = true) (hg : Gl X "list") (hm : X.mg "list" = none) (hg2 : Gl X "reversed") (hm2 : X.mg "reversed" = none) (he : PE X e te)
    (na : starEach [.Call (.Name "reversed" p2) [e] [] pos2] X.env = (false, eval (.Call (.Name "reversed" p2) [e] [] pos2) X.env) :: starEach [] X.env := by rfl) (ns : starEach [e] X.env = (false, eval e X.env) :: starEach [] X.env := by rfl) :
    PE X (.Call (.Name "list" p) [.Call (.Name "reversed" p2) [e] [] pos2] [] pos) (tListRev X.K te) := by
  refine ⟨fun pins s σ H Q I h => ?_⟩
  have inner : wpAny (model X.prog X.w) X.A (eval (.Call (.Name "reversed" p2) [e] [] pos2) X.env) (fun v s1 => ∃ (r a : Addr) (H1 : Hp) (xs : List V) (its : List Value), v = .ref r ∧ Inv X pins σ H1 s1 ∧ FpOk X pins H1 r ∧ a ≠ r ∧ s1.heap.IsRevIter r a ((its.toArray.size : Int) - 1) ∧ s1.heap.IsList a its.toArray ∧ Vals xs its ∧ its.length ≤ sizeLine ∧ ∀ p, H1 p = none → Q (.ref p) (upd H1 p (.lst xs.reverse))) X.xe s := by
    refine Call_ (ld_blt I hg2 hm2 boot_reversed (PyProof.Rows.callWith_type1 (args_cons (thn (he.run pins s σ H _ I h) fun x s1 ⟨v, H1, I1, r1, a, xs, ex, hq, q⟩ => args_nil ?_) ns) ns))
    subst ex
    cases r1
    obtain ⟨its, rv, pl, hz⟩ := I1.list hq
    refine call_reversed_list pl.isList ?_
    have hz2 : its.length ≤ sizeLine := by rw [← rv.length]; exact hz
    obtain ⟨o, n, ho, hc1, hd, hdat⟩ := id pl
    refine ⟨s1.heap.objs.size, a, H1, xs, its, rfl, I1.kept (t' := s1.toks) fun b o e => Heap.get?_push_of_some _ e, I1.fpOk (Nat.le_refl _) (I1.hok.fresh (Nat.le_refl _)), Nat.ne_of_lt (Heap.lt_size ho), ⟨_, Heap.get?_push_size _ rfl, rfl, rfl⟩, pl.isList.at fun o e => Heap.get?_push_of_some _ e, rv, hz2, q⟩
  refine Call_ (ld_blt I hg hm boot_list (PyProof.Rows.callWith_type1 (args_cons (thn inner fun x s1 ⟨r, a, H1, xs, its, ex, I1, hf, hne, hit, hl, rv, hz, q⟩ => args_nil ?_) na) na))
  subst ex
  refine PySem.VLR.call_list_rev (I1.ok.hd hc) hit hl hne (by simpa using hz) fun h' tk acc c' hk e' hi => ?_
  have hv := vals_rev_items rv hi
  have hs : s1.heap.objs.size ≤ s1.heap.objs.size := Nat.le_refl _
  have new : ObjOk X.prog X.w (upd H1 s1.heap.objs.size (.lst xs.reverse)) h' s1.heap.objs.size (.lst xs.reverse) := ⟨by rw [List.length_reverse, rv.length]; exact hz, acc.toList, c', hv, by rw [Array.toArray_toList]; exact e'⟩
  have I3 : Inv X pins σ (upd H1 s1.heap.objs.size (.lst xs.reverse)) { s1 with heap := h', toks := tk } :=
    I1.turnedNew (ch := [r]) (fun b ob hb q => hk b ob (by simpa using hb) q) (fun b hb => by rw [List.mem_singleton.mp hb]; exact hf) hs new
  exact ⟨.ref s1.heap.objs.size, _, I3, rfl, q _ (I1.hok.fresh hs)⟩
def nListRev (f : FE) : FN := fun ρ st => f ρ st >>= fun a => peek a.2 a.1 >>= fun d => match d with
  | .list ds => .ok (.lst ds.reverse, a.2)
  | _ => .bad
theorem vn_listRev {e : Expr} {f : FE} {p p2 pos pos2 : Pos} (hc : X.calm = true) (hg : Gl X "list") (hm : X.mg "list" = none) (hg2 : Gl X "reversed") (hm2 : X.mg "reversed" = none) (he : VE X W e f)
    (na : starEach [.Call (.Name "reversed" p2) [e] [] pos2] X.env = (false, eval (.Call (.Name "reversed" p2) [e] [] pos2) X.env) :: starEach [] X.env := by rfl) (ns : starEach [e] X.env = (false, eval e X.env) :: starEach [] X.env := by rfl) :
    VN X W (.Call (.Name "list" p) [.Call (.Name "reversed" p2) [e] [] pos2] [] pos) (nListRev f) := by
  obtain ⟨t, pe, run⟩ := he.run
  refine ⟨_, pe_listRev hc hg hm hg2 hm2 pe na ns, fun ρ st σ g Q rel k => ?_⟩
  refine run ρ st σ g _ (okN X.K ρ σ Q) _ okN.goes rel k fun d1 st1 v1 g1 e1 r1 h1 k1 => ?_
  obtain ⟨x, px, k2⟩ := peek_bind k1
  cases x with
  | list xs =>
    obtain ⟨a, vs, rfl, s, l⟩ := (pk_of r1.wd h1 px).lst
    exact ⟨a, vs, rfl, s, fun q hq => okN_new r1 k2 hq ⟨_, rfl, l.reverse⟩⟩
  | _ => exact k2.elim
end
end VL

namespace PySem.VLI
open PySem PySem.AutoSeq1 PyProof.Rows L2
theorem list_iadd_tuple (l : Addr) (items : Array Value) (n : Nat) (b : Addr) (items2 : Array Value) (n2 : Nat) (dd : Option Addr) (sl : Array (Option Value)) (hs0 : ¬(!items.isEmpty && Builtin.List.listTooLong (items.size + items2.size)) = true) (hs1 : items.size ≤ sizeLine) (hs2 : items.size + items2.size ≤ sizeLine + 1 := by seq_fits) :
    Meets (Builtin.«list.__iadd__» ⟨[.ref l, .ref b], []⟩) (fun _ R s => s.heap.get? l = some { cls := .type "list", dict := none, data := .seq items n, slots := #[] } ∧ s.heap.get? b = some { cls := .type "tuple", dict := dd, data := .seq items2 n2, slots := sl } ∧ R (.ok (.ret (Value.ref l))) { s with heap := s.heap.update l (Obj.mapSeq fun x => x ++ items2), toks := s.toks }) :=
  .of_wp fun prog w A R s h => by
    obtain ⟨hp, g, d, tk, os⟩ := s; obtain ⟨hl, hb, h⟩ := h; have f1 := idx_int; have f2 := PySem.AutoSeq1.sub_tuple_tuple; have f3 := PySem.AutoSeq1.sub_list_list; have f4 := PySem.AutoSeq1.sub_tuple_list; have f5 := PySem.AutoSeq1.sub_list_tuple;
    have hz' : (items ++ items2).size ≤ sizeLine + 1 := by rw [Array.size_append]; exact hs2
    wp_walk using (wpAny_updateSeq hl rfl (hz := hs1) (_hz' := hz')), wpAny_loadPart' hl, wpAny_loadPart' hb; exact ⟨_, rfl, h⟩
theorem list_iadd_list (l : Addr) (items : Array Value) (n : Nat) (b : Addr) (items2 : Array Value) (n2 : Nat) (dd : Option Addr) (sl : Array (Option Value)) (hs0 : ¬(!items.isEmpty && Builtin.List.listTooLong (items.size + items2.size)) = true) (hs1 : items.size ≤ sizeLine) (hs2 : items.size + items2.size ≤ sizeLine + 1 := by seq_fits) :
    Meets (Builtin.«list.__iadd__» ⟨[.ref l, .ref b], []⟩) (fun _ R s => s.heap.get? l = some { cls := .type "list", dict := none, data := .seq items n, slots := #[] } ∧ s.heap.get? b = some { cls := .type "list", dict := dd, data := .seq items2 n2, slots := sl } ∧ R (.ok (.ret (Value.ref l))) { s with heap := s.heap.update l (Obj.mapSeq fun x => x ++ items2), toks := s.toks }) :=
  .of_wp fun prog w A R s h => by
    obtain ⟨hp, g, d, tk, os⟩ := s; obtain ⟨hl, hb, h⟩ := h; have f1 := idx_int; have f2 := PySem.AutoSeq1.sub_tuple_tuple; have f3 := PySem.AutoSeq1.sub_list_list; have f4 := PySem.AutoSeq1.sub_tuple_list; have f5 := PySem.AutoSeq1.sub_list_tuple;
    have hz' : (items ++ items2).size ≤ sizeLine + 1 := by rw [Array.size_append]; exact hs2
    wp_walk using (wpAny_updateSeq hl rfl (hz := hs1) (_hz' := hz')), wpAny_loadPart' hl, wpAny_loadPart' hb; exact ⟨_, rfl, h⟩
section
variable {M : Model} {A : Around} {E : Value → Shared → Prop} {s : Shared}
theorem binaryOp1_none2 {a b : Value} {T U nm : String} {Q : Option Value → Shared → Prop} (ha : s.TypeIs a T) (hb : s.TypeIs b U)
    (hfill : fillsNumberSlot (.type T) nm = pure false) (hfill2 : fillsNumberSlot (.type U) nm = pure false) (h : Q none s) : wpAny M A (binaryOp1 nm a b) Q E s := by
  simp only [binaryOp1]
  refine wpAny_bind (wpAny_typeOf ha (wpAny_bind (wpAny_typeOf hb (wpAny_bind (wpAny_of_eq hfill ?_)))))
  simp only [hfill2, pure_bind, Bool.false_and, Bool.false_eq_true, if_false]
  split
  · exact wpAny_pure h
  · exact wpAny_pure h
theorem iadd_road2 {a b : Value} {U : String} {Q : Value → Shared → Prop} (ha : s.TypeIs a "list") (hb : s.TypeIs b U) (hfill2 : fillsNumberSlot (.type U) "add" = pure false) (hc : wpAny M A (call (.builtin "list.__iadd__") [a, b]) Q E s) : wpAny M A (inplaceOp .Add a b) Q E s := by
  have hsl : typeLookup (.type "list") (dunderI "add") = pure (some (.builtin "list.__iadd__")) := PySem.F.slot_list_iadd.lookup
  have hsq : isSeqSlot (some (.builtin "list.__iadd__")) = true := by decide +kernel
  have hfi : fillsInplaceSlot (.type "list") "add" (Operator.Add == .Add) = pure false := by
    unfold fillsInplaceSlot
    show (typeLookup (.type "list") (dunderI "add") >>= fun fi => pure (fi.isSome && !isSeqSlot fi)) = pure false
    rw [hsl]
    show (pure (true && !isSeqSlot (some (.builtin "list.__iadd__"))) : Sem Bool) = pure false
    rw [hsq] <;> rfl
  have hsi : seqSlot? (.type "list") (dunderI "add") = pure (some (.builtin "list.__iadd__")) := PySem.seqSlot_of hsl hsq
  unfold inplaceOp
  refine wpAny_holding ?_
  refine wpAny_bind (wpAny_typeOf ha (wpAny_bind (wpAny_of_eq hfi ?_)))
  show wpAny M A (if false = true then _ else _) Q E s
  rw [if_neg Bool.false_ne_true]
  refine wpAny_bind (binaryOp1_none2 (nm := "add") ha hb noFill_list_add hfill2 ?_)
  refine wpAny_bind (wpAny_of_eq hsi ?_)
  exact wpAny_bind (wpAny_rule hc)
end
end PySem.VLI
namespace VL
open PySem PySem.Spec PyProof.Rows L2
section
variable {X : Cx} {W : Wish}
/-! ### xs += ys -/
def rExtA (K : PySem.W.Frag) : R2 := fun x y H Q => ∃ l b xs zs, x = .ref l ∧ y = .ref b ∧ H l = some (.lst xs) ∧ (SqL K H b zs ∨ SqT K H b zs) ∧ xs.length + zs.length ≤ sizeLine ∧ Q (.ref l) (upd H l (.lst (xs ++ zs)))
theorem iop_extA : OpR X (inplaceOp .Add) (rExtA X.K) := by
  intro pins s σ H x y v u Q I rx ry h
  obtain ⟨l, b, xs, zs, rfl, rfl, hH, hB, hz, q⟩ := h
  cases rx
  cases ry
  obtain ⟨z, its, n, r, hl, e⟩ := I.lstM hH
  have fin : ∀ {its2 : List Value}, Vals zs its2 → ∃ w' H', Inv X pins σ H' { s with heap := s.heap.update l (Obj.mapSeq fun x => x ++ its2.toArray), toks := s.toks } ∧ RelV w' (Value.ref l) ∧ Q w' H' := fun {its2} r2 =>
    ⟨.ref l, _, I.lset (its' := its ++ its2) (t' := s.toks) hH e (by simp) (r.append r2) (by rw [List.length_append]; omega), rfl, q⟩
  have sz : ∀ {its2 : List Value}, Vals zs its2 → its.toArray.size + its2.toArray.size ≤ sizeLine ∧ ¬ (!its.toArray.isEmpty && Builtin.List.listTooLong (its.toArray.size + its2.toArray.size)) = true := fun {its2} r2 => by
    have h1 := r.length
    have h2 := r2.length
    have hsz : its.toArray.size + its2.toArray.size ≤ sizeLine := by rw [List.size_toArray, List.size_toArray]; omega
    refine ⟨hsz, ?_⟩
    rw [notLongL hsz, Bool.and_false]
    exact Bool.false_ne_true
  rcases hB with hB | hB
  · obtain ⟨its2, r2, ⟨⟨cls2, dd, dt, sl⟩, n2, ho, hc, hd, hdat⟩, hz2⟩ := I.list hB
    simp only at hc hd hdat
    subst hc hd hdat
    obtain ⟨hsz, hlong⟩ := sz r2
    refine PySem.VLI.iadd_road2 ⟨_, e, rfl⟩ ⟨_, ho, rfl⟩ noFill_list_add (call_meets PySem.F.slot_list_iadd ⟨_, e, rfl⟩ PySem.F.entry_list_iadd (PySem.F.args_list_iadd_2 _ _)
      (PySem.VLI.list_iadd_list l its.toArray n b its2.toArray n2 _ _ hlong (by rw [List.size_toArray]; omega) (by omega)) ⟨e, ho, ?_⟩)
    obtain ⟨w', H', h1, h2, h3⟩ := fin r2
    exact ⟨w', H', h1, h2, h3⟩
  · obtain ⟨its2, r2, ⟨⟨cls2, dd, dt, sl⟩, ho, hc, n2, hdat⟩, hz2⟩ := I.tuple hB
    simp only at hc hdat
    subst hc hdat
    obtain ⟨hsz, hlong⟩ := sz r2
    refine PySem.VLI.iadd_road2 ⟨_, e, rfl⟩ ⟨_, ho, rfl⟩ noFill_tuple_add (call_meets PySem.F.slot_list_iadd ⟨_, e, rfl⟩ PySem.F.entry_list_iadd (PySem.F.args_list_iadd_2 _ _)
      (PySem.VLI.list_iadd_tuple l its.toArray n b its2.toArray n2 _ _ hlong (by rw [List.size_toArray]; omega) (by omega)) ⟨e, ho, ?_⟩)
    obtain ⟨w', H', h1, h2, h3⟩ := fin r2
    exact ⟨w', H', h1, h2, h3⟩
def sAugL (i : Nat) (f : FE) : FS := fun ρ st => match ρ[i]? with
  | some (some (.loc k)) => liftS ρ (f ρ st) fun a => peek a.2 a.1 >>= fun v => match itemsOf v, a.2[k]? with
    | some ys, some (.lst l) => if l.length + ys.length ≤ LIM then .ok (.nx, ρ, a.2.set k (.lst (l ++ ys))) else .bad
    | _, _ => .bad
  | _ => .bad
theorem vs_augL {i : Nat} {x : Str} {e : Expr} {f : FE} {pos pos' : Pos} (hN : X.N.Nodup) (hi : X.N[i]? = some x) (hx : Loc X.env.scope x) (he : VE X W e f) (hf : X.fn x = true ∨ X.env.scope.names.lookup x = some .local := by first | exact .inl rfl | exact .inr rfl | assumption) :
    VS X W (.AugAssign (.Name x pos') .Add e pos) (sAugL i f) := by
  obtain ⟨t, pe, run⟩ := he.runS
  refine ⟨_, ps_aug hN hi hx pe iop_extA hf, fun ρ st σ g D rel k => ?_⟩
  unfold sAugL at k
  cases hr : ρ[i]? with
  | none => simp only [hr] at k; exact k.elim
  | some ov =>
    cases ov with
    | none => simp only [hr] at k; exact k.elim
    | some x0 =>
      cases x0 with
      | p _ => simp only [hr] at k; exact k.elim
      | loc j =>
        simp only [hr] at k
        obtain ⟨v0, s1, h0⟩ := rel.sl.2 i _ hr
        refine ⟨v0, s1, ?_⟩
        refine run ρ st σ g _ D _ rel k fun d1 st1 v1 g1 e1 r1 h1 k1 => ?_
        obtain ⟨u, pu, k2⟩ := peek_bind k1
        cases ei : itemsOf u with
        | none => simp only [ei] at k2; exact k2.elim
        | some ys =>
          cases ej : st1[j]? with
          | none => simp only [ei, ej] at k2; exact k2.elim
          | some ob =>
            cases ob with
            | lst l =>
              simp only [ei, ej] at k2
              split at k2
              · rename_i hlen
                obtain ⟨a, ha, rfl⟩ := h0.ext e1
                obtain ⟨hF, xs, hH, hL⟩ := own_lst r1.wd ha ej
                obtain ⟨b, zs, rfl, sq, hZ⟩ := (pk_of r1.wd h1 pu).sq r1.wd ei
                have hn : NewAt X.K g1.F (.lst (l ++ ys)) (.lst (xs ++ zs)) := ⟨_, rfl, hL.append hZ⟩
                have r2 := rel_mut r1 ha hF hn
                refine ⟨a, b, xs, zs, rfl, rfl, hH, sq, by rw [hL.1, hZ.1]; rw [lim_eq] at *; exact hlen, ?_⟩
                have hv : HasV X.K ⟨g1.F, g1.A, upd g1.H a (.lst (xs ++ zs))⟩ (.loc j) (.ref a) := ⟨a, ha, rfl⟩
                have hsame : ρ.set i (some (.loc j)) = ρ := by
                  apply List.ext_getElem?
                  intro m
                  rw [List.getElem?_set]
                  split
                  · rename_i hm; subst hm; rw [hr]; rw [if_pos (List.getElem?_eq_some_iff.mp hr).1]
                  · rfl
                have sl2 := r2.sl.set hv i
                rw [hsame] at sl2
                exact k2 _ _ (ext_mut ha _) ⟨r2.wd, sl2⟩
              · exact k2.elim
            | _ => simp only [ei, ej] at k2; exact k2.elim
/-! ### the module's constants -/
theorem ve_kint {x : Str} {i : Int} {pos : Pos} (hg : Gl X x) (h : ∃ t, X.mg x = some (.int i t)) (hd : (x == ("__debug__" : Str)) = false := by decide) : VE X W (.Name x pos) (vC (.int i)) := by
  obtain ⟨t, hm⟩ := h
  exact ⟨_, pe_glob (v := .int i) hg hm ⟨t, rfl⟩ hd, fun ρ st σ g Q rel k => k (.int i) g (Ext.refl g) rel (.int i)⟩
/-- a constant tuple of texts -/
def KStrs (K : PySem.W.Frag) (mg : Str → Option Value) (x : Str) (xs : List Str) : Prop := ∃ b, mg x = some (.ref b) ∧ ∀ H, SqT K H b (xs.map V.str)
theorem dp_strs {K : PySem.W.Frag} {H : Hp} : ∀ xs : List Str, DpAll K H (xs.map V.str) (xs.map PyData.str)
  | [] => .nil
  | x :: xs => .cons (.str x) (dp_strs xs)
def vInK (c : PyData) (f : FE) : FE := fun ρ st => f ρ st >>= fun a => peek a.2 a.1 >>= fun d => inP d c >>= fun r => .ok (.p r, a.2)
theorem ve_inK {a : Expr} {f : FE} {x : Str} {xs : List Str} {p pos : Pos} (hu : X.A.units + 65 < cLine) (ha : VE X W a f) (hg : Gl X x) (hk : KStrs X.K X.mg x xs) (hd : (x == ("__debug__" : Str)) = false := by decide) (hm : behindInMarks .In (.Name x p) = false := by rfl) :
    VE X W (.Compare a [.In] [.Name x p] pos) (vInK (.tuple (xs.map PyData.str)) f) := by
  obtain ⟨b, hb, hs⟩ := hk
  obtain ⟨ta, pa, run⟩ := ha.run
  have hr : OpR X (compareOp .In) _ := opR_data (C := fun x y => InOk x y) (g := fun x y => inB x y) fun s x y v u as bs Q E h r1 r2 q => by
    obtain ⟨h1, h2, h3⟩ := InOk.all h
    cases y with
    | list ds => exact SeqAt.in_list_reads r2 r1 (SeqAt.canLay_of_shaped h2) (SeqAt.canLay_of_shaped h1) (room_in_shaped h1 hu) q
    | tuple ds => exact SeqAt.in_tuple_reads r2 r1 (SeqAt.canLay_of_shaped h2) (SeqAt.canLay_of_shaped h1) (room_in_shaped h1 hu) q
    | _ => simp [itemsOf] at h3
  refine ⟨_, pe_cmpR hr pa (pe_glob (v := .ref b) hg hb rfl hd) hm, fun ρ st σ g Q rel k => ?_⟩
  refine run ρ st σ g _ (okE X.K ρ σ Q) _ okE.goes rel k fun d1 st1 v1 g1 e1 r1 h1 k1 => ?_
  obtain ⟨d, pd, k2⟩ := peek_bind k1
  have hp := pk_of r1.wd h1 pd
  unfold inP at k2
  split at k2
  · rename_i hok
    exact ⟨d, _, hp.dp r1.wd (InOk.lay _ _ hok).1, .tup (hs g1.H) (dp_strs xs), hok, okP_fin r1 (.bl _) k2⟩
  · exact k2.elim
end
def KTupI (K : PySem.W.Frag) (x : Str) (xs : List Str) : Prop := ∃ (b : Addr) (o : Obj) (its : Array Value) (n : Nat), PySem.W.nsIn K mainGlobals x = some (some (.ref b)) ∧ K.lookup b = some o ∧ o.cls = .type "tuple" ∧ o.data = .seq its n ∧ its.size ≤ sizeLine ∧ Vals (xs.map V.str) its.toList
theorem KTupI.at {K : PySem.W.Frag} {x : Str} {xs : List Str} (k : KTupI K x xs) {mg : Str → Option Value} {h : Heap} (X : K.In h) (G : h.Ns mainGlobals mg) : KStrs K mg x xs :=
  let ⟨b, o, its, n, h1, h2, h3, h4, h5, h6⟩ := k
  ⟨b, PySem.W.mg_of X G h1, fun _ => .inr ⟨o, its, n, h2, h3, h4, h5, h6⟩⟩
end VL

namespace VL
open PySem PySem.Spec PyProof.Rows L2
/-! ### l[i] op= e, a list of our own -/
def rGetL (K : PySem.W.Frag) : V → V → Hp → VK → Prop := fun o i H Q => ∃ p xs n v, o = .ref p ∧ i = .int n ∧ SqL K H p xs ∧ atI xs n = some v ∧ Q v H
def getI (st : Store) (o : Vd) (i : PyData) : R PyData := match o with
  | .p _ => .bad
  | .loc k => match st[k]? with
    | some (.lst ds) => match i with
      | .int n => match atI ds n with
        | some (.int m) => .ok (.int m)
        | _ => .bad
      | _ => .bad
    | _ => .bad
section
variable {X : Cx} {W : Wish}
theorem get_list : PGet X (rGetL X.K) := by
  intro pins s σ H x y v u Q I rx ry h
  obtain ⟨p, xs, i, z, rfl, rfl, hq, he, q⟩ := h
  cases rx
  obtain ⟨t, rfl⟩ := ry
  obtain ⟨its, r, pl, hz⟩ := I.list hq
  obtain ⟨j, h1, h2, h3, h4, h5⟩ := atI_get he
  obtain ⟨w, ew, rw'⟩ := r.get h2
  have hl := r.length
  have hn := line63
  have fin : EP X pins σ Q w s := ⟨z, H, I, rw', q⟩
  by_cases h0 : 0 ≤ i
  · have hj : i.toNat = j := by
      rw [seqIndex_of h0 h5] at h1
      exact Option.some.inj h1
    exact wpAny_getItem_list pl.isList h0 (by omega) (by rw [hj]; simpa using ew) fin
  · have hj : (i + (its.toArray.size : Int)).toNat = j := by
      rw [seqIndex_neg (by omega) h4] at h1
      rw [List.size_toArray, ← hl]
      exact Option.some.inj h1
    exact wpAny_getItem_list_neg pl.isList (by omega) (by rw [List.size_toArray] <;> omega) (by omega) (by rw [hj]; simpa using ew) fin
theorem getI_run {ρ : Slots} {st : Store} {σ : L2.St} {g : Gh} {o : Vd} {x ui : V} {i : PyData} {Q : VK} (rel : Rel X.K ρ st σ g) (ho : HasV X.K g o x) (hi : Pk X.K g i ui)
    (k : KR no (fun d => ∀ w, (∃ m, d = .int m) → Pk X.K g d w → Has X.K g.F d w → Q w g.H) (getI st o i)) : rGetL X.K x ui g.H Q := by
  cases o with
  | p _ => exact k.elim
  | loc j =>
    obtain ⟨a, ha, rfl⟩ := ho
    unfold getI at k
    simp only at k
    cases hj : st[j]? with
    | none => rw [hj] at k; exact k.elim
    | some ob =>
      rw [hj] at k
      cases ob with
      | lst ds =>
        obtain ⟨hF, xs, hH, hl⟩ := own_lst rel.wd ha hj
        cases i with
        | int n =>
          simp only at k
          cases hx : atI ds n with
          | none => simp only [hx] at k; exact k.elim
          | some d =>
            cases d with
            | int m =>
              simp only [hx] at k
              have hx' : ∃ q, ixN ds.length n = some q ∧ ds[q]? = some (.int m) := by
                unfold atI at hx
                cases hz : ixN ds.length n with
                | none => rw [hz] at hx; cases hx
                | some q => rw [hz] at hx; exact ⟨q, rfl, hx⟩
              obtain ⟨q, hq1, hq2⟩ := hx'
              obtain ⟨v, hv, hH2⟩ := hl.get hq2
              refine ⟨a, xs, n, v, rfl, hi.int, .inl (.inl hH), ?_, k v ⟨m, rfl⟩ hH2 hH2⟩
              unfold atI
              rw [hl.1, hq1]
              exact hv
            | _ => simp only [hx] at k; exact k.elim
        | _ => exact k.elim
      | _ => exact k.elim
noncomputable def sAugS (op : PyData → PyData → R PyData) (fo fi fe : FE) : FS := fun ρ st => liftS ρ (fo ρ st) fun o => liftS ρ (fi ρ o.2) fun i => peek i.2 i.1 >>= fun n => getI i.2 o.1 n >>= fun x => liftS ρ (fe ρ i.2) fun a => peek a.2 a.1 >>= fun y => op x y >>= fun d => putS a.2 o.1 n d >>= fun st' => .ok (.nx, ρ, st')
theorem getI_ne (st : Store) (o : Vd) (i : PyData) (a : Str) (b : Store) : getI st o i ≠ .exc a b := by
  intro h
  unfold getI at h
  cases o with
  | p _ => cases h
  | loc k =>
    simp only at h
    split at h
    · split at h
      · split at h <;> cases h
      · cases h
    · cases h
theorem getI_int {st : Store} {o : Vd} {i d : PyData} (h : getI st o i = .ok d) : ∃ z, i = .int z := by
  unfold getI at h
  cases o with
  | p _ => cases h
  | loc k =>
    simp only at h
    split at h
    · cases i with
      | int z => exact ⟨z, rfl⟩
      | _ => cases h
    · cases h
theorem vs_augS {o i e : Expr} {fo fi fe : FE} {op : Operator} {oo : PyData → PyData → R PyData} {tpos pos : Pos} (hop : IpV X op oo) (hu : X.A.units + 64 < cLine) (ho : VE X W o fo) (hi : VE X W i fi) (he : VE X W e fe)
    (ha : ∀ ov iv new, augStore i ov iv new = (do holding [new, ov, iv] (setItem ov iv new); release [new, ov, iv] []; pure .next) := by intros; rfl) : VS X W (.AugAssign (.Subscript o i tpos) op e pos) (sAugS oo fo fi fe) := by
  obtain ⟨to, po, ro⟩ := ho.runS
  obtain ⟨ti, pi, ri⟩ := hi.runS
  obtain ⟨te, pe, re⟩ := he.runS
  obtain ⟨tp, pip, hip⟩ := hop
  refine ⟨_, ps_augS po pi get_list pe pip (set_or set_list (set_dict (Nat.lt_of_le_of_lt (Nat.add_le_add_left (by decide : 1 ≤ 64) _) hu))) ha, fun ρ st σ g D rel k => ?_⟩
  refine ro ρ st σ g _ D _ rel k fun d1 st1 v1 g1 e1 r1 h1 k1 => ?_
  refine ri ρ st1 σ g1 _ D _ r1 k1 fun d2 st2 v2 g2 e2 r2 h2 k2 => ?_
  obtain ⟨n, pn, k3⟩ := peek_bind k2
  have hn := pk_of r2.wd h2 pn
  have hz : ∃ z, n = .int z := by
    cases hg : getI st2 d1 n with
    | ok d => exact getI_int hg
    | exc a b => exact absurd hg (getI_ne _ _ _ _ _)
    | bad => rw [hg] at k3; exact k3.elim
  obtain ⟨z, rfl⟩ := hz
  have k4 := KR.bind k3
  refine getI_run (i := .int z) r2 (h1.ext e2) hn (KR.mono k4 (fun x hx w hm hp hh => ?_) fun _ _ z => z)
  obtain ⟨m, rfl⟩ := hm
  refine re ρ st2 σ g2 _ D _ r2 hx fun d3 st3 v3 g3 e3 r3 h3 k5 => ?_
  obtain ⟨y, py, k6⟩ := peek_bind k5
  refine hip ρ st3 σ g3 (.int m) y w v3 _ r3 (Has.mono e3.frz hh) (pk_of r3.wd h3 py) ?_
  refine KR.mono (KR.bind k6) (fun d hd w' g' e' r' hw => ?_) fun _ _ z => z
  have := put_run (Q := fun H => D.nx σ H) r' (((h1.ext e2).ext e3).ext e') (show Pk X.K g' (.int z) v2 from Has.mono (e3.trans e').frz hn) hw (KR.mono (KR.bind hd) (fun st' hq g'' e'' r'' => hq σ g'' (e'.trans e'') r'') fun _ _ z => z)
  exact this
end
end VL

namespace VL
open PySem PySem.Spec PyProof.Rows L2
/-! ### *x among written items -/
def tStar (K : PySem.W.Frag) (te : TE) (ta : TA) : TA := fun σ H Q => te σ H fun x H1 => ∃ (p : Addr) (xs : List V), x = .ref p ∧ SqB K H1 p xs ∧ ta σ H1 fun ys H2 => Q (xs ++ ys) H2
def aStar (f : FE) (fa : FA) : FA := fun ρ st => f ρ st >>= fun a => peek a.2 a.1 >>= fun d => optR (itemsOf d) >>= fun ds => fa ρ a.2 >>= fun b => .ok (ds.map .p ++ b.1, b.2)
section
variable {X : Cx} {W : Wish} {e : Expr} {es : List Expr} {p : Pos}
theorem pa_star {te : TE} {t : TA} (ha : PE X e te) (hr : PA X es t) (hs : starEach (.Starred e p :: es) X.env = (true, eval e X.env) :: starEach es X.env := by rfl) : PA X (.Starred e p :: es) (tStar X.K te t) := by
  refine ⟨fun pos pins s σ H Q I h => ?_⟩
  rw [hs]
  refine PySem.W.ks_spliced (thn (ha.run pins s σ H _ I h) fun u s1 ⟨x, H1, I1, r1, q1⟩ => ?_)
  obtain ⟨a, xs, rfl, sq, q⟩ := q1
  cases r1
  obtain ⟨its, rv, hla, hz⟩ := sq.at I1
  have hz' : its.toArray.size ≤ sizeLine := by rw [List.size_toArray, ← rv.length]; exact hz
  unfold PySem.W.StarOf notIterableAtAll
  have fin : ∀ (T : String), T = "list" ∨ T = "tuple" → (∃ o, s1.heap.get? a = some o ∧ o.cls = .type T ∧ ∃ n, o.data = .seq its.toArray n) → wpAny (model X.prog X.w) X.A (collect (.ref a)) (fun here s2 => wpAny (model X.prog X.w) X.A (spliced (backTo pos (starEach es X.env))) (fun vs s3 => AP X pins σ Q (here ++ vs) s3) X.xe s2) X.xe s1 := by
    rintro T hT ⟨o, ho, hc, n, hd⟩
    refine wpAny_collect_seq a hT ho hc hd (fun h' hk => ?_) hz'
    have I2 : Inv X pins σ H1 { s1 with heap := h' } := inv_gens (d := s1.drawn) (t := s1.toks) (G := s1.gens) I1 hk I1.bare
    refine thn (hr.run pos pins _ σ H1 _ I2 q) fun us s3 ⟨ys, H3, I3, r3, q3⟩ => ⟨xs ++ ys, H3, I3, ?_, q3⟩
    exact rv.append r3
  rcases hla with hl | hl
  · obtain ⟨o, ho, hc, n, hd⟩ := id hl
    exact wpAny_bind (wpAny_specialOf hl.typeIs PySem.F.slot_list_iter.lookup (wpAny_pure ⟨rfl, fin "list" (.inl rfl) ⟨o, ho, hc, n, hd⟩⟩))
  · obtain ⟨o, ho, hc, n, hd⟩ := id hl
    exact wpAny_bind (wpAny_specialOf hl.typeIs PySem.F.slot_tuple_iter.lookup (wpAny_pure ⟨rfl, fin "tuple" (.inr rfl) ⟨o, ho, hc, n, hd⟩⟩))
theorem hasVL_p {K : PySem.W.Frag} {g : Gh} : ∀ {ds : List PyData} {xs : List V}, HasL K g.F ds xs → HasVL K g (ds.map .p) xs
  | [], xs, h => by cases h.nil_inv; exact .nil
  | d :: ds, xs, h => by
    obtain ⟨v, r, rfl, h1, h2⟩ := h.uncons
    exact .cons (show HasV K g (.p d) v from h1) (hasVL_p h2)
theorem hasVL_append {K : PySem.W.Frag} {g : Gh} {ds es : List Vd} {xs ys : List V} (a : HasVL K g ds xs) (b : HasVL K g es ys) : HasVL K g (ds ++ es) (xs ++ ys) := by
  refine ⟨by simp [a.1, b.1], fun i d v hd hv => ?_⟩
  by_cases hi : i < ds.length
  · rw [List.getElem?_append_left hi] at hd
    rw [List.getElem?_append_left (by rw [a.1]; exact hi)] at hv
    exact a.2 i d v hd hv
  · rw [List.getElem?_append_right (by omega)] at hd
    rw [List.getElem?_append_right (by rw [a.1]; omega), a.1] at hv
    exact b.2 _ d v hd hv
theorem va_star {f : FE} {r : FA} (h : VE X W e f) (t : VA X W es r) (hs : starEach (.Starred e p :: es) X.env = (true, eval e X.env) :: starEach es X.env := by rfl) : VA X W (.Starred e p :: es) (aStar f r) := by
  obtain ⟨te, pe, run⟩ := h.run
  obtain ⟨tr, pr, run2⟩ := t.run
  refine ⟨_, pa_star pe pr hs, fun ρ st σ g Q rel k => ?_⟩
  refine run ρ st σ g _ (okA X.K ρ σ Q) _ okA.goes rel k fun d1 st1 v1 g1 e1 r1 h1 k1 => ?_
  obtain ⟨u, pu, k2⟩ := peek_bind k1
  cases hi : itemsOf u with
  | none => simp only [hi, optR] at k2; exact k2.elim
  | some ds =>
    simp only [hi, optR, R.ok_bind] at k2
    obtain ⟨a, xs, rfl, sq, hl⟩ := (pk_of r1.wd h1 pu).sq r1.wd hi
    refine ⟨a, xs, rfl, sq, ?_⟩
    refine run2 ρ st1 σ g1 _ (okA X.K ρ σ Q) _ okA.goes r1 k2 fun d2 st2 v2 g2 e2 r2 h2 k3 => ?_
    exact k3 _ g2 (Ext.refl g2) r2 (hasVL_append (hasVL_p (hl.mono e2.frz)) h2)
end
/-! ### l.count(x) -/
def rCountD (K : PySem.W.Frag) : V → List V → Hp → VK → Prop := fun x xs H Q => ∃ (a : Addr) (y : V) (d : PyData) (ds : List PyData), x = V.ref a ∧ xs = [y] ∧ Dp K H (V.ref a) (.list ds) ∧ Dp K H y d ∧
  SeqAt.shaped (.list ds) = true ∧ SeqAt.shaped d = true ∧ Q (.int ((ds.countP fun z => PyData.eqv z d : Nat) : Int)) H
section
variable {X : Cx} {W : Wish}
theorem mt_countD (hu : X.A.units + 65 < cLine) : MtR X "list.count" (rCountD X.K) := by
  intro pins s σ H x xs v us Q I rx rxs h
  obtain ⟨a, y, d, ds, rfl, rfl, hl, hy, sl, sd, q⟩ := h
  cases rx
  cases rxs with
  | cons ry rt =>
    rename_i uy ut
    cases rt
    obtain ⟨bs, r1⟩ := Dp.reads I d y uy hy ry
    have hxs : PyData.canLayAll0 ds = true := SeqAt.canLay_of_shaped sl
    have hroom : X.A.units + 1 + min (PyData.depthAll ds) d.depth < cLine := room_in_shaped sd hu
    cases hl with
    | lst hs ha =>
      obtain ⟨its, rv, ⟨⟨cls, dd, data, sls⟩, n, ho, hc, hdn, hdt⟩, hlen⟩ := I.list hs
      simp only at hc hdt
      subst hc hdt
      obtain ⟨as, h4⟩ := Dp.readsAll I ds _ its ha rv
      have hmap : its.map (SeqAt.readOf s.heap) = ds := SeqAt.readsAll_map ds its as hxs h4
      have hcnt : its.toArray.toList.countP (fun u => PyData.eqv (SeqAt.readOf s.heap u) d) = ds.countP fun z => PyData.eqv z d := by
        rw [← hmap, List.countP_map]; rfl
      refine call_meets PySem.F.slot_list_count ⟨_, ho, rfl⟩ PySem.F.entry_list_count (PySem.F.args_list_count_2 _ _)
        (SeqAt.list_countAt a its.toArray n dd sls uy (fun u => PyData.eqv (SeqAt.readOf s.heap u) d)) ⟨ho, SeqAt.items_eqAt (vs := its.toArray) (show ReadsAll s.heap its.toArray.toList ds as from h4) r1 hxs (SeqAt.canLay_of_shaped sd) hroom, ?_⟩
      rw [hcnt]
      exact ⟨.int _, H, I.tok _, ⟨_, rfl⟩, q⟩
def mCount (st : Store) (x : Vd) (ds : List Vd) : R (Vd × Store) := match ds with
  | [y] => peek st x >>= fun l => peek st y >>= fun d => match l with
    | .list l => if SeqAt.shaped (.list l) = true ∧ SeqAt.shaped d = true then .ok (.p (.int ((l.countP fun z => PyData.eqv z d : Nat) : Int)), st) else .bad
    | _ => .bad
  | _ => .bad
theorem mv_count (hu : X.A.units + 65 < cLine) : MthV X W "list" "list.count" isLstV mCount := by
  refine ⟨_, mt_countD hu, isLst_ty, fun ρ st σ g x v ds vs Q rel hx hd k => ?_⟩
  cases ds with
  | nil => exact k.elim
  | cons y r =>
    cases r with
    | cons _ _ => exact k.elim
    | nil =>
      obtain ⟨u, ur, rfl, h1, h2⟩ := hd.uncons
      cases h2.nil_inv
      obtain ⟨l, pl, k1⟩ := peek_bind (show KR _ _ (peek st x >>= _) from k)
      obtain ⟨d, pd, k2⟩ := peek_bind k1
      have hl := pk_of rel.wd hx pl
      have hy := pk_of rel.wd h1 pd
      cases l with
      | list l =>
        simp only at k2
        split at k2
        · rename_i hs
          obtain ⟨a, xs, rfl, s, hL⟩ := hl.lst
          exact ⟨a, u, d, l, rfl, rfl, Pk.dp rel.wd hl (canLay_shaped hs.1), Pk.dp rel.wd hy (canLay_shaped hs.2), hs.1, hs.2, okP_fin rel (.int _) k2⟩
        · exact k2.elim
      | _ => exact k2.elim
/-! ### x not in CONST -/
def vNInK (c : PyData) (f : FE) : FE := fun ρ st => f ρ st >>= fun a => peek a.2 a.1 >>= fun d => notInP d c >>= fun r => .ok (.p r, a.2)
theorem ve_ninK {a : Expr} {f : FE} {x : Str} {xs : List Str} {p pos : Pos} (hu : X.A.units + 65 < cLine) (ha : VE X W a f) (hg : Gl X x) (hk : KStrs X.K X.mg x xs) (hd : (x == ("__debug__" : Str)) = false := by decide) (hm : behindInMarks .NotIn (.Name x p) = false := by rfl) :
    VE X W (.Compare a [.NotIn] [.Name x p] pos) (vNInK (.tuple (xs.map PyData.str)) f) := by
  obtain ⟨b, hb, hs⟩ := hk
  obtain ⟨ta, pa, run⟩ := ha.run
  have hr : OpR X (compareOp .NotIn) _ := opR_data (C := fun x y => InOk x y) (g := fun x y => !inB x y) fun s x y v u as bs Q E h r1 r2 q => by
    obtain ⟨h1, h2, h3⟩ := InOk.all h
    cases y with
    | list ds => exact SeqAt.notIn_list_reads r2 r1 (SeqAt.canLay_of_shaped h2) (SeqAt.canLay_of_shaped h1) (room_in_shaped h1 hu) q
    | tuple ds => exact SeqAt.notIn_tuple_reads r2 r1 (SeqAt.canLay_of_shaped h2) (SeqAt.canLay_of_shaped h1) (room_in_shaped h1 hu) q
    | _ => simp [itemsOf] at h3
  refine ⟨_, pe_cmpR hr pa (pe_glob (v := .ref b) hg hb rfl hd) hm, fun ρ st σ g Q rel k => ?_⟩
  refine run ρ st σ g _ (okE X.K ρ σ Q) _ okE.goes rel k fun d1 st1 v1 g1 e1 r1 h1 k1 => ?_
  obtain ⟨d, pd, k2⟩ := peek_bind k1
  have hp := pk_of r1.wd h1 pd
  unfold notInP at k2
  split at k2
  · rename_i hok
    exact ⟨d, _, hp.dp r1.wd (InOk.lay _ _ hok).1, .tup (hs g1.H) (dp_strs xs), hok, okP_fin r1 (.bl _) k2⟩
  · exact k2.elim
theorem vt_ninK {a : Expr} {f : FE} {x : Str} {xs : List Str} {p pos : Pos} (hu : X.A.units + 65 < cLine) (ha : VE X W a f) (hg : Gl X x) (hk : KStrs X.K X.mg x xs) (hd : (x == ("__debug__" : Str)) = false := by decide) (hm : behindInMarks .NotIn (.Name x p) = false := by rfl) :
    VT X W (.Compare a [.NotIn] [.Name x p] pos) (asB (vNInK (.tuple (xs.map PyData.str)) f)) := by
  obtain ⟨b, hb, hs⟩ := hk
  obtain ⟨ta, pa, run⟩ := ha.run
  have hr : OpR X (compareOp .NotIn) _ := opR_data (C := fun x y => InOk x y) (g := fun x y => !inB x y) fun s x y v u as bs Q E h r1 r2 q => by
    obtain ⟨h1, h2, h3⟩ := InOk.all h
    cases y with
    | list ds => exact SeqAt.notIn_list_reads r2 r1 (SeqAt.canLay_of_shaped h2) (SeqAt.canLay_of_shaped h1) (room_in_shaped h1 hu) q
    | tuple ds => exact SeqAt.notIn_tuple_reads r2 r1 (SeqAt.canLay_of_shaped h2) (SeqAt.canLay_of_shaped h1) (room_in_shaped h1 hu) q
    | _ => simp [itemsOf] at h3
  refine vt_asB hr pa (pe_glob (v := .ref b) hg hb rfl hd) hm fun ρ st σ g Q rel k => ?_
  refine run ρ st σ g _ (okE X.K ρ σ Q) _ okE.goes rel k fun d1 st1 v1 g1 e1 r1 h1 k1 => ?_
  obtain ⟨d, pd, k2⟩ := peek_bind k1
  have hp := pk_of r1.wd h1 pd
  unfold notInP at k2
  split at k2
  · rename_i hok
    exact ⟨d, _, hp.dp r1.wd (InOk.lay _ _ hok).1, .tup (hs g1.H) (dp_strs xs), hok, okP_fin r1 (.bl _) k2⟩
  · exact k2.elim
theorem vt_inK {a : Expr} {f : FE} {x : Str} {xs : List Str} {p pos : Pos} (hu : X.A.units + 65 < cLine) (ha : VE X W a f) (hg : Gl X x) (hk : KStrs X.K X.mg x xs) (hd : (x == ("__debug__" : Str)) = false := by decide) (hm : behindInMarks .In (.Name x p) = false := by rfl) :
    VT X W (.Compare a [.In] [.Name x p] pos) (asB (vInK (.tuple (xs.map PyData.str)) f)) := by
  obtain ⟨b, hb, hs⟩ := hk
  obtain ⟨ta, pa, run⟩ := ha.run
  have hr : OpR X (compareOp .In) _ := opR_data (C := fun x y => InOk x y) (g := fun x y => inB x y) fun s x y v u as bs Q E h r1 r2 q => by
    obtain ⟨h1, h2, h3⟩ := InOk.all h
    cases y with
    | list ds => exact SeqAt.in_list_reads r2 r1 (SeqAt.canLay_of_shaped h2) (SeqAt.canLay_of_shaped h1) (room_in_shaped h1 hu) q
    | tuple ds => exact SeqAt.in_tuple_reads r2 r1 (SeqAt.canLay_of_shaped h2) (SeqAt.canLay_of_shaped h1) (room_in_shaped h1 hu) q
    | _ => simp [itemsOf] at h3
  refine vt_asB hr pa (pe_glob (v := .ref b) hg hb rfl hd) hm fun ρ st σ g Q rel k => ?_
  refine run ρ st σ g _ (okE X.K ρ σ Q) _ okE.goes rel k fun d1 st1 v1 g1 e1 r1 h1 k1 => ?_
  obtain ⟨d, pd, k2⟩ := peek_bind k1
  have hp := pk_of r1.wd h1 pd
  unfold inP at k2
  split at k2
  · rename_i hok
    exact ⟨d, _, hp.dp r1.wd (InOk.lay _ _ hok).1, .tup (hs g1.H) (dp_strs xs), hok, okP_fin r1 (.bl _) k2⟩
  · exact k2.elim
end
end VL

/-! walks: enumerate, zip -/
namespace PySem
open Sem (wp)
set_option maxHeartbeats 1000000 in
theorem vl_meets_enum1 {v : Value} {o : Obj} {H : Heap → Prop} (B : Begins v o H) :
    Meets (Builtin.«enumerate.__new__» ⟨[.type "enumerate", v], []⟩) (fun _ R s => H s.heap ∧
      R (.ok (.ret (.ref (s.heap.push o).objs.size))) { s with heap := (s.heap.push o).push { cls := .type "enumerate", data := .fields #[.none, .bool false, .ref s.heap.objs.size, rawInt 0, .none, .none] } }) :=
  .of_wp fun prog w A R s h => by
    obtain ⟨hp, g, d, tk, os⟩ := s; obtain ⟨h1, h⟩ := h
    have hsub := sub_enumerate
    have q1 : ∀ {A' : Around} {E : Value → Shared → Prop} {Q : Value → Shared → Prop}, Q (.ref hp.objs.size) ⟨hp.push o, g, d, tk, os⟩ → wpAny (model prog w) A' (pyIter v) Q E ⟨hp, g, d, tk, os⟩ :=
      fun q => B.iter prog w _ _ ⟨hp, g, d, tk, os⟩ _ h1 q
    wp_walk using q1
    refine wpAny_stack_any fun st => wpAny_pure ?_
    split
    · rename_i c _ _ _ _ _
      cases (c == Value.type "enumerate")
      · wp_walk using q1
        exact ⟨_, rfl, h⟩
      · wp_walk using q1
        exact ⟨_, rfl, h⟩
    · wp_walk using q1
      exact ⟨_, rfl, h⟩
section
variable {prog : Program} {w : World} {A : Around} {E : Value → Shared → Prop} {s : Shared}
theorem vl_enum_begins1 {v : Value} {o : Obj} {H : Heap → Prop} {Q : Value → Shared → Prop} (B : Begins v o H) (h1 : H s.heap)
    (h : ∀ h', IsEnum h' (s.heap.objs.size + 1) s.heap.objs.size 0 .none → h'.get? s.heap.objs.size = some o → h'.objs.size = s.heap.objs.size + 2 →
      (∀ b o, s.heap.get? b = some o → h'.get? b = some o) → Q (.ref (s.heap.objs.size + 1)) { s with heap := h' }) :
    wpAny (model prog w) A (call (.type "enumerate") [v]) Q E s := by
  refine callType_new F.called_enumerate (by decide) (F.typeCall_enumerate_1 _) (F.newCall_enumerate_1 _) (fun obj => F.args_object_init_2 obj _) F.entry_enumerate_new
    (vl_meets_enum1 B) ⟨h1, ?_⟩
  have hz : (s.heap.push o).objs.size = s.heap.objs.size + 1 := Heap.size_push ..
  show _ ∧ _
  rw [hz]
  have he : IsEnum ((s.heap.push o).push { cls := .type "enumerate", data := .fields #[.none, .bool false, .ref s.heap.objs.size, rawInt 0, .none, .none] }) (s.heap.objs.size + 1) s.heap.objs.size 0 .none := by
    have := Heap.get?_push_size (s.heap.push o) (o := { cls := .type "enumerate", data := .fields #[.none, .bool false, .ref s.heap.objs.size, rawInt 0, .none, .none] }) rfl
    rw [hz] at this; exact this
  refine ⟨⟨_, he, rfl⟩, h _ he (Heap.get?_push_of_some _ (Heap.get?_push_size _ B.free)) (by rw [Heap.size_push, hz]) fun b o x => Heap.get?_push_of_some _ (Heap.get?_push_of_some _ x)⟩
end
end PySem
namespace VL
open PySem PySem.Spec PyProof.Rows L2
/-- the tuple at a, each item in a new pair -/
def IteT (K : PySem.W.Frag) (a : Addr) : It :=
  ⟨fun i H => ∃ (xs : List V) (x : V), SqT K H a xs ∧ xs[i]? = some x, fun i H v H' => ∃ T x, v = .ref T ∧ H T = none ∧ H' = upd H T (.tup [.int (i : Nat), x]) ∧ ∀ xs, SqT K H a xs → xs[i]? = some x, fun i H => ∃ xs : List V, SqT K H a xs ∧ xs.length ≤ i⟩
theorem turn_enumT {P : Program} {w : World} {K : PySem.W.Frag} {elts : List Expr} {kk : Nat} {tpos : Pos} (a e it : Addr) :
    Turn P w K (.Tuple elts kk tpos) (IteT K a) [e, it] e (fun i h => (∃ old, IsEnum h e it ((i : Nat) : Int) old) ∧ h.IsTupleIter it a i ∧ e ≠ it ∧ e ≠ a ∧ a ≠ it) where
  mem := by simp
  obj := fun i h st b hb => by
    obtain ⟨⟨old, he⟩, ⟨o, ho, hc, hd⟩, _⟩ := st
    have e' : b = e ∨ b = it := by simpa using hb
    rcases e' with z | z
    · rw [z]; exact ⟨_, he, fun v q => nomatch q⟩
    · rw [z]; exact ⟨o, ho, fun v q => by rw [hd] at q; cases q⟩
  keep := fun i h h' st k => let ⟨⟨old, he⟩, hi, hne⟩ := st; ⟨⟨old, k e (by simp) _ he⟩, hi.at fun o q => k it (by simp) o q, hne⟩
  item := by
    intro X hP hw hK hc i pins s σ H E I hf st hg
    subst hP hw hK
    obtain ⟨⟨old, he⟩, hit, hne, hea, hai⟩ := st
    obtain ⟨xs, x, hq, hx⟩ := hg
    obtain ⟨its, rv, p, hz⟩ := I.tuple hq
    obtain ⟨u, hu, ru⟩ := rv.get hx
    have hel : e < s.heap.objs.size := Heap.lt_size he
    have hil : it < s.heap.objs.size := by obtain ⟨_, q, _⟩ := hit; exact Heap.lt_size q
    have hlt : i < its.toArray.size := by
      have := (List.getElem?_eq_some_iff.mp hu).1
      simpa using this
    refine wpAny_pyNext_enum_itemD (Draws.tuple (prog := X.prog) (w := X.w) (A := X.A.in1) (show X.A.in1.handled = none from I.ok.hd hc) it a hai its.toArray) he ⟨hit, p⟩ hlt hne (by simp [hne, hea]) fun x' h' tk hP ho hst' hT hsz hk => ?_
    have ex : x' = u := by
      have hP : its.toArray[i]? = some x' := hP
      rw [List.getElem?_toArray, hu] at hP; cases hP; rfl
    subst ex
    obtain ⟨hit', _⟩ := hst'
    refine ⟨_, rfl, wpAny_letOwnedTupleGo_enum (s := { s with heap := h', toks := tk + 1 }) ho fun h'' he' sb => ?_⟩
    have hT2 : h''.get? s.heap.objs.size = some { cls := .type "tuple", data := .seq #[.int i tk, x'] } := (sb.2 _ (Nat.ne_of_gt hel)).trans hT
    have new : ObjOk X.prog X.w (upd H s.heap.objs.size (.tup [.int (i : Nat), x])) h'' s.heap.objs.size (.tup [.int (i : Nat), x]) :=
      ⟨by show 2 ≤ sizeLine; decide, [.int i tk, x'], .cons ⟨_, rfl⟩ (.cons ru .nil), ⟨_, hT2, rfl, _, rfl⟩⟩
    have I1 : Inv X pins σ (upd H s.heap.objs.size (.tup [.int (i : Nat), x])) { s with heap := h'', toks := tk + 1 } :=
      I.turnedNew (ch := [e, it]) (fun b ob hb q => (sb.2 b (fun z => hb (by simp [z]))).trans (hk b ob (fun z => hb (by simp [z])) (fun z => hb (by simp [z])) q)) hf (Nat.le_refl _) new
    refine ⟨.ref s.heap.objs.size, _, I1, rfl, ⟨_, x, rfl, I.hok.fresh (Nat.le_refl _), rfl, fun ys hy => by rw [I.tuple_inj hy hq]; exact hx⟩, ⟨⟨x', ?_⟩, hit'.at fun o q => (sb.2 it (Ne.symm hne)).trans q, hne, hea, hai⟩, fun b hb => ?_⟩
    · have e1 : ((i + 1 : Nat) : Int) = (i : Int) + 1 := by omega
      rw [e1]; exact he'
    · have hb' : b < s.heap.objs.size := by
        have e' : b = e ∨ b = it := by simpa using hb
        rcases e' with z | z
        · rw [z]; exact hel
        · rw [z]; exact hil
      rw [upd_ne (Nat.ne_of_lt hb')]
      exact (hf b hb).1
  done := by
    intro X hP hw hK hc i pins s σ H E I hf st hg
    subst hP hw hK
    obtain ⟨⟨old, he⟩, hit, hne, hea, hai⟩ := st
    obtain ⟨xs, hq, hx⟩ := hg
    obtain ⟨its, rv, p, hz⟩ := I.tuple hq
    obtain ⟨f0, f1, f2, f3, f4, f5⟩ := hf it (by simp)
    have hl := rv.length
    have hT : s.TypeIs (.ref e) "enumerate" := ⟨_, he, rfl⟩
    unfold pyNext
    refine wpAny_bind (wpAny_attempt (wpAny_callSpecial?_slot (name := Str.ofString "__next__") hT F.slot_enumerate_next
      (wpAny_call_entry F.slot_enumerate_next hT F.entry_enumerate_next ?_ (F.args_enumerate_next_1 _))))
    show wpAny _ _ (field (.ref e) 2 >>= _) _ _ _
    refine wpAny_bind (wpAny_field he rfl (x := .ref it) rfl ?_)
    refine wpAny_bind (wpAny_nextOf_tuple_end (I.ok.hd hc) hit p (by simp; omega) fun h' x he' hx' => ?_)
    obtain ⟨o, ho, hc⟩ := hx'
    refine wpAny_bind (wpAny_isInstance (T := "StopIteration") (b := true) ⟨o, ho, hc⟩ isSubtype_stop ?_)
    exact wpAny_pure ⟨rfl, I.turned (t' := s.toks) (fun b o hb q => he' b o hb q) f0 f1 f3 f4 f5⟩
  self := fun A i s Q E st h => let ⟨⟨_, he⟩, _⟩ := st; wpAny_pyIter_enum he h
def iEnumA (K : PySem.W.Frag) (ta : TA) : TI := fun σ H R => ta σ H fun vs H1 => ∃ a xs, vs = [.ref a] ∧ ((SqL K H1 a xs ∧ R (Ite K a) H1) ∨ (SqT K H1 a xs ∧ R (IteT K a) H1))
theorem pi_enumA {X : Cx} {e : Expr} {ta : TA} {p pos tpos : Pos} {elts : List Expr} {kk : Nat} (hg : Gl X "enumerate") (hm : X.mg "enumerate" = none) (ha : PA X [e] ta) (hs : starEach [e] X.env = [(false, eval e X.env)] := by rfl) :
    PI X (.Tuple elts kk tpos) (.Call (.Name "enumerate" p) [e] [] pos) (iEnumA X.K ta) := by
  refine ⟨fun pins s σ H R I h => ?_⟩
  refine Call_ (ld_blt I hg hm boot_enumerate (PyProof.Rows.callWith_type1 (thn (ha.run pos pins s σ H _ I h) fun us s1 ⟨vs, H1, I1, r1, q1⟩ => ?_) hs rfl))
  obtain ⟨a, xs, ex, q1⟩ := q1
  subst ex
  cases r1 with
  | cons r rr =>
    cases rr
    cases r
    have fresh : ∀ b ∈ [s1.heap.objs.size + 1, s1.heap.objs.size], FpOk X pins H1 b := fun b hb => by
      have e' : b = s1.heap.objs.size + 1 ∨ b = s1.heap.objs.size := by simpa using hb
      have hle : s1.heap.objs.size ≤ b := by
        rcases e' with z | z
        · rw [z]; exact Nat.le_add_right _ _
        · rw [z]; exact Nat.le_refl _
      exact I1.fpOk hle (I1.hok.fresh hle)
    rcases q1 with ⟨hq, q⟩ | ⟨hq, q⟩
    · obtain ⟨its, rv, p', hz⟩ := I1.list hq
      refine call_enumerate_list p'.isList fun h' he hit hsz hk => wpAny_pyIter_enum he ?_
      have I2 : Inv X pins σ H1 { s1 with heap := h' } := I1.kept (t' := s1.toks) hk
      exact ⟨s1.heap.objs.size + 1, [s1.heap.objs.size + 1, s1.heap.objs.size], _, _, H1, rfl, I2, turn_enum a (s1.heap.objs.size + 1) s1.heap.objs.size, ⟨⟨.none, he⟩, hit, Nat.succ_ne_self _⟩, fresh, q⟩
    · obtain ⟨its, rv, p', hz⟩ := I1.tuple hq
      have p' : s1.heap.IsTuple a its.toArray := p'
      have hal : a < s1.heap.objs.size := by obtain ⟨_, q, _⟩ := id p'; exact Heap.lt_size q
      refine vl_enum_begins1 (begins_tuple a its.toArray) p' fun h' he hit hsz hk => wpAny_pyIter_enum he ?_
      have I2 : Inv X pins σ H1 { s1 with heap := h' } := I1.kept (t' := s1.toks) hk
      exact ⟨s1.heap.objs.size + 1, [s1.heap.objs.size + 1, s1.heap.objs.size], _, _, H1, rfl, I2, turn_enumT a (s1.heap.objs.size + 1) s1.heap.objs.size, ⟨⟨.none, he⟩, ⟨_, hit, rfl, rfl⟩, Nat.succ_ne_self _, Nat.ne_of_gt (Nat.lt_succ_of_lt hal), Nat.ne_of_lt hal⟩, fresh, q⟩
/-- items with their places -/
def enumD (ds : List PyData) : List PyData := ds.mapIdx fun i d => .tuple [.int (i : Int), d]
theorem enumD_len (ds : List PyData) : (enumD ds).length = ds.length := by simp [enumD]
theorem enumD_get {ds : List PyData} {i : Nat} {d : PyData} (h : (enumD ds)[i]? = some d) : ∃ e, ds[i]? = some e ∧ d = .tuple [.int (i : Int), e] := by
  unfold enumD at h
  rw [List.getElem?_mapIdx] at h
  cases e : ds[i]? with
  | none => rw [e] at h; cases h
  | some x => rw [e] at h; cases h; exact ⟨x, rfl, rfl⟩
def iEnum (f : FE) : FI := fun ρ st => f ρ st >>= fun a => match a.1 with
  | .p (.list ds) => .ok (⟨enumD ds, none⟩, a.2)
  | .p (.tuple ds) => .ok (⟨enumD ds, none⟩, a.2)
  | _ => .bad
section
variable {X : Cx} {W : Wish}
theorem vi_enum {e : Expr} {f : FE} {p pos tpos : Pos} {elts : List Expr} {kk : Nat} (hg : Gl X "enumerate") (hm : X.mg "enumerate" = none) (h : VE X W e f) (hs : starEach [e] X.env = [(false, eval e X.env)] := by rfl) (he : starEach [e] X.env = (false, eval e X.env) :: starEach [] X.env := by rfl) :
    VI X W (.Tuple elts kk tpos) (.Call (.Name "enumerate" p) [e] [] pos) (iEnum f) := by
  obtain ⟨t, pe, run⟩ := h.run
  refine ⟨_, pi_enumA hg hm (pa_cons (hs := he) pe pa_nil) hs, fun ρ st σ g P rel k => ?_⟩
  refine run ρ st σ g _ (okI X.K ρ σ P) _ okI.goes rel k fun d1 st1 v1 g1 e1 r1 h1 k1 => ?_
  cases d1 with
  | loc _ => exact k1.elim
  | p d =>
    have two : (2 : Nat) ≤ sizeLine := by decide
    have new : ∀ {g : Gh} {st : Store} {xs : List V} {ds : List PyData} {i : Nat} {d : PyData} {T : Addr} {x : V}, Wd X.K st g → HasL X.K g.F ds xs → (enumD ds)[i]? = some d → xs[i]? = some x → g.H T = none →
        ∃ g', g'.H = upd g.H T (.tup [.int (i : Nat), x]) ∧ Ext g g' ∧ Wd X.K st g' ∧ Has X.K g'.F d (.ref T) := fun {g st xs ds i d T x} w hl hd hx hT => by
      obtain ⟨e, he, rfl⟩ := enumD_get hd
      exact ⟨g.fz T (.tup [.int (i : Nat), x]), rfl, ext_fz w hT, wd_fz w hT, has_newT w hT (.cons (.int _) (.cons (hl.2 i e x he hx) .nil))⟩
    cases d with
    | list ds =>
      obtain ⟨a, xs, rfl, s, l⟩ := Has.lst_inv h1
      refine ⟨a, xs, rfl, .inl ⟨r1.wd.sub.seq s, k1 _ g1 (Ext.refl g1) r1 trivial fun st g e w o => ?_⟩⟩
      have hs : SqL X.K g.H a xs := (e.frz.trans w.sub).seq s
      refine ⟨fun i hi => ?_, fun i hi => ?_, fun i x H' d hd hy => ?_⟩
      · have hi : i < (enumD ds).length := hi
        rw [enumD_len, ← l.1] at hi
        exact ⟨xs, xs[i], hs, List.getElem?_eq_getElem hi⟩
      · have hi : (enumD ds).length ≤ i := hi
        rw [enumD_len, ← l.1] at hi
        exact ⟨xs, hs, hi⟩
      · obtain ⟨T, y, rfl, hT, rfl, hy⟩ := hy
        exact new w (l.mono e.frz) hd (hy xs hs) hT
    | tuple ds =>
      obtain ⟨a, xs, rfl, s, l⟩ := Has.tup_inv h1
      refine ⟨a, xs, rfl, .inr ⟨seqT_mono r1.wd.sub s, k1 _ g1 (Ext.refl g1) r1 trivial fun st g e w o => ?_⟩⟩
      have hs : SqT X.K g.H a xs := seqT_mono (e.frz.trans w.sub) s
      refine ⟨fun i hi => ?_, fun i hi => ?_, fun i x H' d hd hy => ?_⟩
      · have hi : i < (enumD ds).length := hi
        rw [enumD_len, ← l.1] at hi
        exact ⟨xs, xs[i], hs, List.getElem?_eq_getElem hi⟩
      · have hi : (enumD ds).length ≤ i := hi
        rw [enumD_len, ← l.1] at hi
        exact ⟨xs, hs, hi⟩
      · obtain ⟨T, y, rfl, hT, rfl, hy⟩ := hy
        exact new w (l.mono e.frz) hd (hy xs hs) hT
    | _ => exact k1.elim

/-! ### zip of two lists, of two tuples -/
def zipD (xs ys : List PyData) : List PyData := List.zipWith (fun x y => .tuple [x, y]) xs ys
theorem zipD_get {xs ys : List PyData} {i : Nat} {d : PyData} (h : (zipD xs ys)[i]? = some d) : ∃ x y, xs[i]? = some x ∧ ys[i]? = some y ∧ d = .tuple [x, y] := by
  unfold zipD at h
  rw [List.getElem?_zipWith] at h
  cases e : xs[i]? with
  | none => rw [e] at h; cases h
  | some x =>
    cases e2 : ys[i]? with
    | none => rw [e, e2] at h; cases h
    | some y => rw [e, e2] at h; cases h; exact ⟨x, y, rfl, rfl, rfl⟩
def iZip (f h : FE) : FI := fun ρ st => f ρ st >>= fun a => h ρ a.2 >>= fun b => match a.1, b.1 with
  | .p (.list xs), .p (.list ys) => .ok (⟨zipD xs ys, none⟩, b.2)
  | .p (.tuple xs), .p (.tuple ys) => .ok (⟨zipD xs ys, none⟩, b.2)
  | _, _ => .bad
theorem vi_zip {e e2 : Expr} {f h : FE} {p pos tpos : Pos} {elts : List Expr} {kk : Nat} (hg : Gl X "zip") (hm : X.mg "zip" = none) (ha : VE X W e f) (hb : VE X W e2 h)
    (hs : starEach [e, e2] X.env = (false, eval e X.env) :: starEach [e2] X.env := by rfl) (hpl : (backTo pos (starEach [e2] X.env)).any (·.1) = false := by rfl) (he2 : starEach [e2] X.env = (false, eval e2 X.env) :: starEach [] X.env := by rfl) :
    VI X W (.Tuple elts kk tpos) (.Call (.Name "zip" p) [e, e2] [] pos) (iZip f h) := by
  obtain ⟨t, pe, run⟩ := ha.run
  obtain ⟨u, pu, run2⟩ := hb.run
  refine ⟨_, RZ.pi_zipA hg hm (pa_cons (hs := hs) pe (pa_cons (hs := he2) pu pa_nil)) hs hpl, fun ρ st σ g P rel k => ?_⟩
  refine run ρ st σ g _ (okI X.K ρ σ P) _ okI.goes rel k fun d1 st1 v1 g1 e1 r1 h1 k1 => ?_
  refine run2 ρ st1 σ g1 _ (okI X.K ρ σ P) _ okI.goes r1 k1 fun d2 st2 v2 g2 e2 r2 h2 k2 => ?_
  have new : ∀ {g : Gh} {st : Store} {xs ys : List V} {ds es : List PyData} {i : Nat} {d : PyData} {T : Addr} {x y : V}, Wd X.K st g → HasL X.K g.F ds xs → HasL X.K g.F es ys → (zipD ds es)[i]? = some d → xs[i]? = some x → ys[i]? = some y → g.H T = none →
      ∃ g', g'.H = upd g.H T (.tup [x, y]) ∧ Ext g g' ∧ Wd X.K st g' ∧ Has X.K g'.F d (.ref T) := fun {g st xs ys ds es i d T x y} w hl hl2 hd hx hy hT => by
    obtain ⟨a, b, ha, hb, rfl⟩ := zipD_get hd
    exact ⟨g.fz T (.tup [x, y]), rfl, ext_fz w hT, wd_fz w hT, has_newT w hT (.cons (hl.2 i a x ha hx) (.cons (hl2.2 i b y hb hy) .nil))⟩
  have zl : ∀ (xs ys : List PyData), (zipD xs ys).length = min xs.length ys.length := fun xs ys => by simp [zipD]
  cases d1 with
  | loc _ => exact k2.elim
  | p d =>
    cases d with
    | list ds =>
      cases d2 with
      | loc _ => exact k2.elim
      | p d' =>
        cases d' with
        | list es =>
          obtain ⟨a, xs, rfl, s, l⟩ := Has.lst_inv (show Has X.K g1.F (.list ds) v1 from h1)
          obtain ⟨b, ys, rfl, s', l'⟩ := Has.lst_inv (show Has X.K g2.F (.list es) v2 from h2)
          refine ⟨a, b, xs, ys, rfl, .inl ⟨(e2.frz.trans r2.wd.sub).seq s, r2.wd.sub.seq s', k2 _ g2 (Ext.refl g2) r2 trivial fun st g e w o => ?_⟩⟩
          have hs : SqL X.K g.H a xs := ((e2.frz.trans e.frz).trans w.sub).seq s
          have hs' : SqL X.K g.H b ys := (e.frz.trans w.sub).seq s'
          refine ⟨fun i hi => ?_, fun i hi => ?_, fun i x H' d hd hy => ?_⟩
          · have hi : i < (zipD ds es).length := hi
            rw [zl, ← l.1, ← l'.1] at hi
            exact ⟨xs, ys, xs[i], ys[i], hs, hs', List.getElem?_eq_getElem _, List.getElem?_eq_getElem _⟩
          · have hi : (zipD ds es).length ≤ i := hi
            rw [zl, ← l.1, ← l'.1] at hi
            exact ⟨xs, ys, hs, hs', by omega⟩
          · obtain ⟨T, x, y, rfl, hT, rfl, hx, hy⟩ := hy
            exact new w (l.mono (e2.frz.trans e.frz)) (l'.mono e.frz) hd (hx xs hs) (hy ys hs') hT
        | _ => exact k2.elim
    | tuple ds =>
      cases d2 with
      | loc _ => exact k2.elim
      | p d' =>
        cases d' with
        | tuple es =>
          obtain ⟨a, xs, rfl, s, l⟩ := Has.tup_inv (show Has X.K g1.F (.tuple ds) v1 from h1)
          obtain ⟨b, ys, rfl, s', l'⟩ := Has.tup_inv (show Has X.K g2.F (.tuple es) v2 from h2)
          refine ⟨a, b, xs, ys, rfl, .inr ⟨seqT_mono (e2.frz.trans r2.wd.sub) s, seqT_mono r2.wd.sub s', k2 _ g2 (Ext.refl g2) r2 trivial fun st g e w o => ?_⟩⟩
          have hs : SqT X.K g.H a xs := seqT_mono ((e2.frz.trans e.frz).trans w.sub) s
          have hs' : SqT X.K g.H b ys := seqT_mono (e.frz.trans w.sub) s'
          refine ⟨fun i hi => ?_, fun i hi => ?_, fun i x H' d hd hy => ?_⟩
          · have hi : i < (zipD ds es).length := hi
            rw [zl, ← l.1, ← l'.1] at hi
            exact ⟨xs, ys, xs[i], ys[i], hs, hs', List.getElem?_eq_getElem _, List.getElem?_eq_getElem _⟩
          · have hi : (zipD ds es).length ≤ i := hi
            rw [zl, ← l.1, ← l'.1] at hi
            exact ⟨xs, ys, hs, hs', by omega⟩
          · obtain ⟨T, x, y, rfl, hT, rfl, hx, hy⟩ := hy
            exact new w (l.mono (e2.frz.trans e.frz)) (l'.mono e.frz) hd (hx xs hs) (hy ys hs') hT
        | _ => exact k2.elim
    | _ => exact k2.elim
end
@[simp] theorem iEnum_ap (f : FE) (ρ : Slots) (st : Store) : iEnum f ρ st = (f ρ st >>= fun a => match a.1 with
  | .p (.list ds) => .ok (⟨enumD ds, none⟩, a.2)
  | .p (.tuple ds) => .ok (⟨enumD ds, none⟩, a.2)
  | _ => .bad) := rfl
@[simp] theorem iZip_ap (f h : FE) (ρ : Slots) (st : Store) : iZip f h ρ st = (f ρ st >>= fun a => h ρ a.2 >>= fun b => match a.1, b.1 with
  | .p (.list xs), .p (.list ys) => .ok (⟨zipD xs ys, none⟩, b.2)
  | .p (.tuple xs), .p (.tuple ys) => .ok (⟨zipD xs ys, none⟩, b.2)
  | _, _ => .bad) := rfl
end VL

/-! what meanings compute: rewriting by applied forms -/
namespace VL
open PySem PySem.Spec PyProof.Rows L2
section
variable (ρ : Slots) (st : Store) (f h k : FE) (fa : FA) (fi : FI) (gt : FG) (gs : FGs) (c c' : FT) (sf sh : FS) (i : Nat) (d : PyData)
@[simp] theorem vVar_ap {v : Vd} (hv : ρ[i]? = some (some v)) : vVar i ρ st = .ok (v, st) := by unfold vVar; rw [hv]
@[simp] theorem vC_ap : vC d ρ st = .ok (.p d, st) := rfl
@[simp] theorem aNil_ap : aNil ρ st = .ok ([], st) := rfl
@[simp] theorem aCons_ap : aCons f fa ρ st = (f ρ st >>= fun a => fa ρ a.2 >>= fun b => .ok (a.1 :: b.1, b.2)) := rfl
@[simp] theorem vBin_ap (o : PyData → PyData → R PyData) : vBin o f h ρ st = (f ρ st >>= fun a => h ρ a.2 >>= fun b => peek b.2 a.1 >>= fun x => peek b.2 b.1 >>= fun y => o x y >>= fun d => .ok (.p d, b.2)) := rfl
@[simp] theorem vBinD_ap (o : Store → Vd → Vd → R PyData) : vBinD o f h ρ st = (f ρ st >>= fun a => h ρ a.2 >>= fun b => o b.2 a.1 b.1 >>= fun d => .ok (.p d, b.2)) := rfl
@[simp] theorem vUn_ap (o : PyData → R PyData) : vUn o f ρ st = (f ρ st >>= fun a => peek a.2 a.1 >>= fun x => o x >>= fun d => .ok (.p d, a.2)) := rfl
@[simp] theorem vCall_ap (o : List PyData → R PyData) : vCall o fa ρ st = (fa ρ st >>= fun a => peekL a.2 a.1 >>= fun ds => o ds >>= fun d => .ok (.p d, a.2)) := rfl
@[simp] theorem vDef_ap (n : Nat) (m : FM) : vDef n m fa ρ st = (fa ρ st >>= fun a => if a.1.length = n then (m a.1 a.2).only fun b => .ok b else .bad) := rfl
@[simp] theorem vTup_ap : vTup fa ρ st = (fzA fa ρ st >>= fun a => if a.1.length ≤ LIM then .ok (.p (.tuple a.1), a.2) else .bad) := rfl
@[simp] theorem fzA_ap : fzA fa ρ st = (fa ρ st >>= fun a => frzL a.1 a.2) := rfl
@[simp] theorem vFz_ap (n : FN) : vFz n ρ st = (n ρ st >>= fun a => .ok (.p (obP a.1), a.2)) := rfl
@[simp] theorem vOwn_ap (n : FN) : vOwn n ρ st = (n ρ st >>= fun a => .ok (.loc a.2.length, a.2 ++ [a.1])) := rfl
@[simp] theorem nLst_ap : nLst fa ρ st = (fzA fa ρ st >>= fun a => if a.1.length ≤ LIM then .ok (.lst a.1, a.2) else .bad) := rfl
@[simp] theorem nDct_ap (t : Bool) : nDct t ρ st = .ok (.dct t [], st) := rfl
@[simp] theorem nListOf_ap : nListOf f ρ st = (f ρ st >>= fun a => peek a.2 a.1 >>= fun d => optR (itemsOf d) >>= fun ds => .ok (.lst ds, a.2)) := rfl
@[simp] theorem nLc_ap (fe : FE) (vs : List Nat) : nLc fi gt c fe vs ρ st = (fi ρ st >>= fun a => (lcG a.1 gt c fe (wipeV ρ vs) a.1.ds a.2).only fun b => if b.1.length ≤ LIM then .ok (.lst b.1, b.2) else .bad) := rfl
@[simp] theorem asB_ap : asB f ρ st = (f ρ st >>= fun a => match a.1 with | .p (.bool b) => .ok (b, a.2) | _ => .bad) := rfl
@[simp] theorem vTru_ap : vTru f ρ st = (f ρ st >>= fun a => peek a.2 a.1 >>= fun x => truP x >>= fun b => .ok (b, a.2)) := rfl
@[simp] theorem tNot_ap : tNot c ρ st = (c ρ st >>= fun a => .ok (!a.1, a.2)) := rfl
@[simp] theorem vAnd_ap : vAnd c c' ρ st = (c ρ st >>= fun a => if a.1 = true then c' ρ a.2 else .ok (false, a.2)) := rfl
@[simp] theorem vOr_ap : vOr c c' ρ st = (c ρ st >>= fun a => if a.1 = true then .ok (true, a.2) else c' ρ a.2) := rfl
@[simp] theorem vAndV_ap : vAndV f h ρ st = (asB f ρ st >>= fun a => if a.1 = true then h ρ a.2 else .ok (.p (.bool false), a.2)) := rfl
@[simp] theorem vOrV_ap : vOrV f h ρ st = (asB f ρ st >>= fun a => if a.1 = true then .ok (.p (.bool true), a.2) else h ρ a.2) := rfl
@[simp] theorem vNotV_ap : vNotV f ρ st = (asB f ρ st >>= fun a => .ok (.p (.bool (!a.1)), a.2)) := rfl
@[simp] theorem vIf_ap : vIf c f h ρ st = (c ρ st >>= fun a => if a.1 = true then f ρ a.2 else h ρ a.2) := rfl
@[simp] theorem vSl_ap (l u : FO) : vSl f l u ρ st = (f ρ st >>= fun a => l ρ a.2 >>= fun b => u ρ b.2 >>= fun c => peek c.2 a.1 >>= fun x => slP x b.1 c.1 >>= fun d => .ok (.p d, c.2)) := rfl
@[simp] theorem oNone_ap : oNone ρ st = .ok (none, st) := rfl
@[simp] theorem oSome_ap : oSome f ρ st = (f ρ st >>= fun a => match a.1 with | .p (.int i) => .ok (some i, a.2) | _ => .bad) := rfl
@[simp] theorem fYes_ap : fYes ρ st = .ok (true, st) := rfl
@[simp] theorem iSeq_ap : iSeq f ρ st = (f ρ st >>= fun a => srcOf a.2 a.1 >>= fun s => .ok (s, a.2)) := rfl
@[simp] theorem iRange1_ap : iRange1 f ρ st = (f ρ st >>= fun a => match a.1 with | .p (.int n) => if In62 n then .ok (⟨rangeD 0 n, none⟩, a.2) else .bad | _ => .bad) := rfl
@[simp] theorem iRange2_ap : iRange2 f h ρ st = (f ρ st >>= fun a => h ρ a.2 >>= fun b => match a.1, b.1 with | .p (.int m), .p (.int n) => if In62 m ∧ In62 n then .ok (⟨rangeD m n, none⟩, b.2) else .bad | _, _ => .bad) := rfl
@[simp] theorem gSet_ap (v : Vd) : gSet i v ρ st = .ok (ρ.set i (some v)) := rfl
@[simp] theorem gTupV_ap (n : Nat) (v : Vd) : gTupV n gs v ρ st = (peek st v >>= fun x => optR (itemsOf x) >>= fun ds => if ds.length = n then gs (ds.map .p) ρ st else .bad) := rfl
@[simp] theorem gsNil_ap : gsNil [] ρ st = .ok ρ := rfl
@[simp] theorem gsCons_ap (v : Vd) (r : List Vd) : gsCons gt gs (v :: r) ρ st = (gt v ρ st >>= fun ρ' => gs r ρ' st) := rfl
@[simp] theorem sNil_ap : sNil ρ st = .ok (.nx, ρ, st) := rfl
@[simp] theorem sSeq_ap : sSeq sf sh ρ st = (sf ρ st >>= fun a => match a.1 with | .nx => sh a.2.1 a.2.2 | o => .ok (o, a.2)) := rfl
@[simp] theorem sRet_ap : sRet f ρ st = liftS ρ (f ρ st) fun a => .ok (.rt a.1, ρ, a.2) := rfl
@[simp] theorem sRetN_ap : sRetN ρ st = .ok (.rt (.p .none), ρ, st) := rfl
@[simp] theorem sBk_ap : sBk ρ st = .ok (.bk, ρ, st) := rfl
@[simp] theorem sCt_ap : sCt ρ st = .ok (.ct, ρ, st) := rfl
@[simp] theorem sExpr_ap : sExpr f ρ st = liftS ρ (f ρ st) fun a => .ok (.nx, ρ, a.2) := rfl
@[simp] theorem sIf_ap : sIf c sf sh ρ st = liftS ρ (c ρ st) fun a => if a.1 = true then sf ρ a.2 else sh ρ a.2 := rfl
@[simp] theorem sSet_ap : sSet i f ρ st = liftS ρ (f ρ st) fun a => .ok (.nx, ρ.set i (some a.1), a.2) := rfl
@[simp] theorem sAsg_ap : sAsg f gt ρ st = liftS ρ (f ρ st) fun a => gt a.1 ρ a.2 >>= fun ρ' => .ok (.nx, ρ', a.2) := rfl
@[simp] theorem sAsgT_ap (n : Nat) : sAsgT fa n gs ρ st = liftS ρ (fa ρ st) fun a => if a.1.length = n ∧ n ≤ LIM then gs a.1 ρ a.2 >>= fun ρ' => .ok (.nx, ρ', a.2) else .bad := rfl
@[simp] theorem sAsgS_ap (is : List Nat) : sAsgS fa is ρ st = liftS ρ (fa ρ st) fun a => if a.1.length = is.length ∧ a.1.length ≤ LIM then .ok (.nx, setsV ρ is.reverse a.1.reverse, a.2) else .bad := rfl
@[simp] theorem sPut_ap : sPut f h k ρ st = liftS ρ (f ρ st) fun v => liftS ρ (h ρ v.2) fun o => liftS ρ (k ρ o.2) fun i => peek i.2 i.1 >>= fun n => frz i.2 v.1 >>= fun d => putS d.2 o.1 n d.1 >>= fun st' => .ok (.nx, ρ, st') := rfl
@[simp] theorem sAug_ap (o : PyData → PyData → R PyData) {x : Vd} (hx : ρ[i]? = some (some x)) : sAug i o f ρ st = liftS ρ (f ρ st) fun a => peek a.2 x >>= fun u => peek a.2 a.1 >>= fun v => o u v >>= fun d => .ok (.nx, ρ.set i (some (.p d)), a.2) := by
  unfold sAug; rw [hx]
@[simp] theorem sFor_ap : sFor fi gt sf ρ st = liftS ρ (fi ρ st) fun a => forG a.1 gt sf a.1.ds ρ a.2 := rfl
@[simp] theorem vMth_ap (ty : Store → Vd → Bool) (M : Store → Vd → List Vd → R (Vd × Store)) : vMth ty M f fa ρ st = (f ρ st >>= fun o => if ty o.2 o.1 = true then fa ρ o.2 >>= fun a => M a.2 o.1 a.1 else .bad) := rfl
@[simp] theorem setsV_nil (vs : List Vd) : setsV ρ [] vs = ρ := by cases vs <;> rfl
@[simp] theorem setsV_cons (l : List Nat) (v : Vd) (vs : List Vd) : setsV ρ (i :: l) (v :: vs) = setsV (ρ.set i (some v)) l vs := rfl
end
@[simp] theorem entry_ap (N n : Nat) (lv : Nat → Vd → Store → R (Vd × Store)) (f : FS) (ds : List Vd) (st : Store) (hl : ds.length = n) : entry N n lv f ds st = (f (ds.map some ++ List.replicate (N - n) none) st).only (outM lv st.length) := by
  unfold entry; rw [if_pos hl]
@[simp] theorem outM_rt (lv : Nat → Vd → Store → R (Vd × Store)) (m : Nat) (d : Vd) (ρ : Slots) (st : Store) : outM lv m (.rt d, ρ, st) = lv m d st := rfl
@[simp] theorem outM_nx (lv : Nat → Vd → Store → R (Vd × Store)) (m : Nat) (ρ : Slots) (st : Store) : outM lv m (.nx, ρ, st) = lv m (.p .none) st := rfl
@[simp] theorem leaveF_p (m : Nat) (d : PyData) (st : Store) : leaveF m (.p d) st = .ok (.p d, st.take m) := rfl
@[simp] theorem leaveN_p (m : Nat) (d : PyData) (st : Store) : leaveN m (.p d) st = .ok (.p d, st.take m) := rfl
@[simp] theorem leaveN_new (st : Store) (ob : Ob) : leaveN st.length (.loc st.length) (st ++ [ob]) = .ok (.loc st.length, st ++ [ob]) := by
  simp [leaveN]
@[simp] theorem peek_p (st : Store) (d : PyData) : peek st (.p d) = .ok d := rfl
@[simp] theorem frz_p (st : Store) (d : PyData) : frz st (.p d) = .ok (d, st) := rfl
theorem peek_lst {st : Store} {k : Nat} {l : List PyData} (h : st[k]? = some (.lst l)) : peek st (.loc k) = .ok (.list l) := by simp [peek, h]
@[simp] theorem peekL_nil (st : Store) : peekL st [] = .ok [] := rfl
@[simp] theorem peekL_cons (st : Store) (v : Vd) (vs : List Vd) : peekL st (v :: vs) = (peek st v >>= fun a => peekL st vs >>= fun b => .ok (a :: b)) := rfl
@[simp] theorem frzL_nil (st : Store) : frzL [] st = .ok ([], st) := rfl
@[simp] theorem frzL_cons (st : Store) (v : Vd) (vs : List Vd) : frzL (v :: vs) st = (frz st v >>= fun a => frzL vs a.2 >>= fun b => .ok (a.1 :: b.1, b.2)) := rfl
@[simp] theorem one_ap (o : PyData → R PyData) (d : PyData) : one o [d] = o d := rfl
@[simp] theorem srcOf_lst (st : Store) (ds : List PyData) : srcOf st (.p (.list ds)) = .ok ⟨ds, none⟩ := rfl
@[simp] theorem srcOf_tup (st : Store) (ds : List PyData) : srcOf st (.p (.tuple ds)) = .ok ⟨ds, none⟩ := rfl
@[simp] theorem srcOk (ds : List PyData) (st : Store) : Src.Ok ⟨ds, none⟩ st = True := rfl
@[simp] theorem obP_lst (l : List PyData) : obP (.lst l) = .list l := rfl
@[simp] theorem obP_dct (t : Bool) (l : List (PyData × PyData)) : obP (.dct t l) = .dict l := rfl
@[simp] theorem itemsOf_lst (l : List PyData) : itemsOf (.list l) = some l := rfl
@[simp] theorem itemsOf_tup (l : List PyData) : itemsOf (.tuple l) = some l := rfl
@[simp] theorem optR_some {α : Type} (a : α) : optR (some a) = .ok a := rfl
@[simp] theorem optR_none {α : Type} : (optR none : R α) = .bad := rfl
@[simp] theorem addP_int (i j : Int) : addP (.int i) (.int j) = .ok (.int (i + j)) := rfl
@[simp] theorem intP_int (C : Int → Int → Prop) [∀ i j, Decidable (C i j)] (g : Int → Int → PyData) (i j : Int) : intP C g (.int i) (.int j) = if C i j then .ok (g i j) else .bad := rfl
@[simp] theorem mulP_int (i j : Int) : mulP (.int i) (.int j) = if PySem.IntMulOk i j then .ok (.int (i * j)) else .bad := rfl
@[simp] theorem absP_int (i : Int) : absP (.int i) = .ok (.int (i.natAbs : Int)) := by
  show R.ok (PyData.int _) = _
  congr 2; split <;> omega
@[simp] theorem lenP_lst (l : List PyData) : lenP (.list l) = .ok (.int l.length) := rfl
@[simp] theorem lenP_tup (l : List PyData) : lenP (.tuple l) = .ok (.int l.length) := rfl
@[simp] theorem intP1_int (i : Int) : intP1 (.int i) = .ok (.int i) := rfl
@[simp] theorem tupleP_lst (l : List PyData) : tupleP (.list l) = .ok (.tuple l) := rfl
@[simp] theorem tupleP_tup (l : List PyData) : tupleP (.tuple l) = .ok (.tuple l) := rfl
@[simp] theorem addI_int (i j : Int) : addI (.int i) (.int j) = .ok (.int (i + j)) := rfl
@[simp] theorem subI_int (i j : Int) : subI (.int i) (.int j) = .ok (.int (i - j)) := rfl
@[simp] theorem ixD_lst (st : Store) (l : List PyData) (i : Int) : ixD st (.p (.list l)) (.p (.int i)) = optR (atI l i) := rfl
@[simp] theorem ixD_tup (st : Store) (l : List PyData) (i : Int) : ixD st (.p (.tuple l)) (.p (.int i)) = optR (atI l i) := rfl
theorem ixD_loc {st : Store} {k : Nat} {l : List PyData} (h : st[k]? = some (.lst l)) (i : Int) : ixD st (.loc k) (.p (.int i)) = optR (atI l i) := by
  simp [ixD, dctOf, h, peek, idxP]
theorem atI_get {l : List PyData} {j : Nat} {d : PyData} (h : l[j]? = some d) : atI l (j : Int) = some d := atI_nat h
@[simp] theorem eqv_int (i j : Int) : PyData.eqv (.int i) (.int j) = decide (i = j) := by simp only [PyData.eqv]; rw [Bool.eq_iff_iff]; simp
@[simp] theorem shaped_int (i : Int) : SeqAt.shaped (.int i) = true := by first | rfl | simp [SeqAt.shaped]
@[simp] theorem shaped_bool (i : Bool) : SeqAt.shaped (.bool i) = true := by first | rfl | simp [SeqAt.shaped]
@[simp] theorem shaped_none : SeqAt.shaped .none = true := by first | rfl | simp [SeqAt.shaped]
@[simp] theorem eqP_int (n : Bool) (i j : Int) : eqP n (.int i) (.int j) = .ok (.bool (decide (i = j) != n)) := by simp [eqP]
theorem ord_int (i j : Int) : OrdOk (.int i) (.int j) := by simp [OrdOk, PySem.W.alike, isNone]
@[simp] theorem ltP_int (i j : Int) : ltP (.int i) (.int j) = .ok (.bool (decide (i < j))) := by simp [ltP, ord_int, PySem.W.dataLt_int]
@[simp] theorem gtP_int (i j : Int) : gtP (.int i) (.int j) = .ok (.bool (decide (j < i))) := by simp [gtP, ord_int, PySem.W.dataLt_int]
@[simp] theorem leP_int (i j : Int) : leP (.int i) (.int j) = .ok (.bool (decide (i ≤ j))) := by simp [leP, ord_int, PySem.W.dataLt_int, ← Int.not_lt]
@[simp] theorem geP_int (i j : Int) : geP (.int i) (.int j) = .ok (.bool (decide (j ≤ i))) := by simp [geP, ord_int, PySem.W.dataLt_int, ← Int.not_lt]
@[simp] theorem maxP_int (i j : Int) : maxP [.int i, .int j] = .ok (.int (max i j)) := by
  show R.ok (PyData.int (if j > i then j else i)) = _
  congr 2; split <;> omega
@[simp] theorem minP_int (i j : Int) : minP [.int i, .int j] = .ok (.int (min i j)) := by
  show R.ok (PyData.int (if j < i then j else i)) = _
  congr 2; split <;> omega
@[simp] theorem sumP_lst (ns : List Int) : sumP (.list (ns.map .int)) = .ok (.int ns.sum) := by simp [sumP, asInts_map]
@[simp] theorem sumP_tup (ns : List Int) : sumP (.tuple (ns.map .int)) = .ok (.int ns.sum) := by simp [sumP, asInts_map]
@[simp] theorem truP_bool (b : Bool) : truP (.bool b) = .ok b := rfl
@[simp] theorem isiP_int (i : Int) (T : String) : isiP T (.int i) = .ok (.bool (tyLe "int" T)) := rfl

theorem putS_lst {st : Store} {k : Nat} {ds : List PyData} {n : Int} {j : Nat} {d : PyData} (h : st[k]? = some (.lst ds)) (hj : ixN ds.length n = some j) : putS st (.loc k) (.int n) d = .ok (st.set k (.lst (ds.set j d))) := by
  unfold putS; simp only [h, hj]
theorem putS_dct {st : Store} {k : Nat} {t : Bool} {ds : List (PyData × PyData)} {i d : PyData} (h : st[k]? = some (.dct t ds)) (hk : keyB t i = true) (hl : ds.length < LIM) : putS st (.loc k) i d = .ok (st.set k (.dct t (putP ds i d))) := by
  unfold putS; simp only [h]; exact if_pos ⟨hk, hl⟩
theorem set_get {st : Store} {k : Nat} (h : k < st.length) (ob : Ob) : (st.set k ob)[k]? = some ob := by
  rw [List.getElem?_set_self h]
theorem ixD_dct {st : Store} {k : Nat} {t : Bool} {ds : List (PyData × PyData)} {i : PyData} (h : st[k]? = some (.dct t ds)) (hk : keyB t i = true) : ixD st (.loc k) (.p i) = optR (getP ds i) := by
  simp [ixD, dctOf, h, peek, hk]
@[simp] theorem wipeV_nil (ρ : Slots) : wipeV ρ [] = ρ := rfl
@[simp] theorem wipeV_cons (ρ : Slots) (v : Nat) (vs : List Nat) : wipeV ρ (v :: vs) = (wipeV ρ vs).set v none := rfl
theorem cutD_to {α : Type} (xs : List α) (i : Int) (h : 0 ≤ i) : cutD xs none (some i) = xs.take i.toNat := by
  obtain ⟨n, rfl⟩ : ∃ n : Nat, i = n := ⟨i.toNat, by omega⟩
  unfold cutD
  rw [HT.sIx_none, HT.sIx_nat, List.drop_zero, Nat.sub_zero, Int.toNat_natCast]
  rcases Nat.le_total n xs.length with h | h
  · rw [Nat.min_eq_left h]
  · rw [Nat.min_eq_right h, List.take_length, List.take_of_length_le h]
theorem cutD_from {α : Type} (xs : List α) (i : Int) (h : 0 ≤ i) : cutD xs (some i) none = xs.drop i.toNat := by
  obtain ⟨n, rfl⟩ : ∃ n : Nat, i = n := ⟨i.toNat, by omega⟩
  unfold cutD
  rw [HT.sIx_none, HT.sIx_nat, Int.toNat_natCast]
  rcases Nat.le_total n xs.length with h | h
  · rw [Nat.min_eq_left h, List.take_of_length_le (by simp)]
  · rw [Nat.min_eq_right h, List.drop_length, List.drop_eq_nil_of_le h]; simp
@[simp] theorem slP_to (xs : List PyData) (i : Int) (h : 0 ≤ i) : slP (.list xs) none (some i) = .ok (.list (xs.take i.toNat)) := by simp [slP, cutD_to _ _ h]
@[simp] theorem slP_from (xs : List PyData) (i : Int) (h : 0 ≤ i) : slP (.list xs) (some i) none = .ok (.list (xs.drop i.toNat)) := by simp [slP, cutD_from _ _ h]
@[simp] theorem slP_toT (xs : List PyData) (i : Int) (h : 0 ≤ i) : slP (.tuple xs) none (some i) = .ok (.tuple (xs.take i.toNat)) := by simp [slP, cutD_to _ _ h]
@[simp] theorem slP_fromT (xs : List PyData) (i : Int) (h : 0 ≤ i) : slP (.tuple xs) (some i) none = .ok (.tuple (xs.drop i.toNat)) := by simp [slP, cutD_from _ _ h]
theorem addP_lst {a b : List PyData} (h : a.length + b.length ≤ LIM) : addP (.list a) (.list b) = .ok (.list (a ++ b)) := if_pos h
theorem addP_tup {a b : List PyData} (h : a.length + b.length ≤ LIM) : addP (.tuple a) (.tuple b) = .ok (.tuple (a ++ b)) := if_pos h
@[simp] theorem LIM_eq : LIM = 16777216 := rfl
/-! ### loops -/
@[simp] theorem lcG_nil (ds : List PyData) (gt : FG) (tt : FT) (fe : FE) (ρ : Slots) (st : Store) : lcG ⟨ds, none⟩ gt tt fe ρ [] st = .ok ([], st) := by
  unfold lcG; exact if_pos trivial
theorem lcG_cons (ds : List PyData) (gt : FG) (tt : FT) (fe : FE) (ρ : Slots) (d : PyData) (r : List PyData) (st : Store) : lcG ⟨ds, none⟩ gt tt fe ρ (d :: r) st =
    (gt (.p d) ρ st >>= fun ρ1 => tt ρ1 st >>= fun b => if b.1 = true then fe ρ1 b.2 >>= fun a => frz a.2 a.1 >>= fun x => lcG ⟨ds, none⟩ gt tt fe ρ r x.2 >>= fun y => .ok (x.1 :: y.1, y.2) else lcG ⟨ds, none⟩ gt tt fe ρ r b.2) := by
  rw [lcG]; exact if_pos trivial
/-- every item is kept, nothing is changed -/
theorem lcG_map {src : List PyData} {gt : FG} {fe : FE} {ρ : Slots} {st : Store} (g : PyData → PyData) : ∀ {ds : List PyData}, (∀ d ∈ ds, ∃ ρ1, gt (.p d) ρ st = .ok ρ1 ∧ fe ρ1 st = .ok (.p (g d), st)) → lcG ⟨src, none⟩ gt fYes fe ρ ds st = .ok (ds.map g, st)
  | [], _ => by simp
  | d :: r, h => by
    obtain ⟨ρ1, h1, h2⟩ := h d List.mem_cons_self
    rw [lcG_cons, h1]
    simp [h2, lcG_map g (fun x hx => h x (List.mem_cons_of_mem _ hx))]
theorem lcG_mapA {α : Type} {src : List PyData} {gt : FG} {fe : FE} {ρ : Slots} {st : Store} (c g : α → PyData) : ∀ {ds : List α}, (∀ d ∈ ds, ∃ ρ1, gt (.p (c d)) ρ st = .ok ρ1 ∧ fe ρ1 st = .ok (.p (g d), st)) → lcG ⟨src, none⟩ gt fYes fe ρ (ds.map c) st = .ok (ds.map g, st)
  | [], _ => by simp
  | d :: r, h => by
    obtain ⟨ρ1, h1, h2⟩ := h d List.mem_cons_self
    rw [List.map_cons, lcG_cons, h1]
    simp [h2, lcG_mapA c g (fun x hx => h x (List.mem_cons_of_mem _ hx))]
/-- some are kept, nothing is changed -/
theorem lcG_filter {src : List PyData} {gt : FG} {tt : FT} {fe : FE} {ρ : Slots} {st : Store} (b : PyData → Bool) (g : PyData → PyData) : ∀ {ds : List PyData}, (∀ d ∈ ds, ∃ ρ1, gt (.p d) ρ st = .ok ρ1 ∧ tt ρ1 st = .ok (b d, st) ∧ (b d = true → fe ρ1 st = .ok (.p (g d), st))) →
    lcG ⟨src, none⟩ gt tt fe ρ ds st = .ok ((ds.filter b).map g, st)
  | [], _ => by simp
  | d :: r, h => by
    obtain ⟨ρ1, h1, h2, h3⟩ := h d List.mem_cons_self
    have ih := lcG_filter (src := src) b g (fun x hx => h x (List.mem_cons_of_mem _ hx))
    rw [lcG_cons, h1]
    cases hb : b d with
    | true => simp [h2, hb, h3 hb, ih]
    | false => simp [h2, hb, ih]
/-- every item is kept, the store moves within P -/
theorem lcG_inv {src : List PyData} {gt : FG} {fe : FE} {ρ : Slots} (P : Store → Prop) (Q : PyData → Prop) : ∀ {ds : List PyData} {st : Store}, (∀ d ∈ ds, ∀ st, P st → ∃ ρ1 v st', gt (.p d) ρ st = .ok ρ1 ∧ fe ρ1 st = .ok (.p v, st') ∧ Q v ∧ P st') → P st →
    ∃ l st', lcG ⟨src, none⟩ gt fYes fe ρ ds st = .ok (l, st') ∧ l.length = ds.length ∧ (∀ v ∈ l, Q v) ∧ P st'
  | [], st, _, hP => ⟨[], st, by simp, rfl, by simp, hP⟩
  | d :: r, st, h, hP => by
    obtain ⟨ρ1, v, st1, h1, h2, hq, hp⟩ := h d List.mem_cons_self st hP
    obtain ⟨l, st2, e, hl, hv, hp2⟩ := lcG_inv (src := src) P Q (fun x hx => h x (List.mem_cons_of_mem _ hx)) hp
    exact ⟨v :: l, st2, by rw [lcG_cons, h1]; simp [h2, e], by simp [hl], by simpa using ⟨hq, hv⟩, hp2⟩
@[simp] theorem forG_nil (ds : List PyData) (gt : FG) (body : FS) (ρ : Slots) (st : Store) : forG ⟨ds, none⟩ gt body [] ρ st = .ok (.nx, ρ, st) := by
  unfold forG; exact if_pos trivial
theorem forG_cons (ds : List PyData) (gt : FG) (body : FS) (d : PyData) (r : List PyData) (ρ : Slots) (st : Store) : forG ⟨ds, none⟩ gt body (d :: r) ρ st =
    (gt (.p d) ρ st >>= fun ρ1 => body ρ1 st >>= fun a => match a.1 with
      | .nx => forG ⟨ds, none⟩ gt body r a.2.1 a.2.2
      | .ct => forG ⟨ds, none⟩ gt body r a.2.1 a.2.2
      | .bk => .ok (.nx, a.2)
      | o => .ok (o, a.2)) := by
  rw [forG]; exact if_pos trivial
/-- a loop that runs to its end; P by the items behind -/
theorem forG_inv {src : List PyData} {gt : FG} {body : FS} (P : List PyData → Slots → Store → Prop) : ∀ {ds : List PyData} {ρ : Slots} {st : Store},
    (∀ d r ρ st, P (d :: r) ρ st → ∃ ρ1 ρ' st', gt (.p d) ρ st = .ok ρ1 ∧ (body ρ1 st = .ok (.nx, ρ', st') ∨ body ρ1 st = .ok (.ct, ρ', st')) ∧ P r ρ' st') → P ds ρ st →
    ∃ ρ' st', forG ⟨src, none⟩ gt body ds ρ st = .ok (.nx, ρ', st') ∧ P [] ρ' st'
  | [], ρ, st, _, hP => ⟨ρ, st, by simp, hP⟩
  | d :: r, ρ, st, h, hP => by
    obtain ⟨ρ1, ρ', st', h1, h2, hp⟩ := h d r ρ st hP
    obtain ⟨ρ2, st2, e, hp2⟩ := forG_inv (src := src) P h hp
    refine ⟨ρ2, st2, ?_, hp2⟩
    rw [forG_cons, h1]
    rcases h2 with h2 | h2 <;> simp [h2, e]
/-- the same by the turn's number -/
theorem forG_ix {src : List PyData} {gt : FG} {body : FS} (P : Nat → Slots → Store → Prop) {ds : List PyData} {ρ : Slots} {st : Store}
    (h : ∀ i d ρ st, ds[i]? = some d → P i ρ st → ∃ ρ1 ρ' st', gt (.p d) ρ st = .ok ρ1 ∧ (body ρ1 st = .ok (.nx, ρ', st') ∨ body ρ1 st = .ok (.ct, ρ', st')) ∧ P (i + 1) ρ' st') (h0 : P 0 ρ st) :
    ∃ ρ' st', forG ⟨src, none⟩ gt body ds ρ st = .ok (.nx, ρ', st') ∧ P ds.length ρ' st' := by
  obtain ⟨ρ', st', e, i, hi, hp⟩ := forG_inv (src := src) (gt := gt) (body := body) (fun r ρ st => ∃ i, ds.drop i = r ∧ i ≤ ds.length ∧ P i ρ st) (ds := ds) (ρ := ρ) (st := st) (fun d r ρ st ⟨i, hd, hi, hp⟩ => by
    have hlt : i < ds.length := by
      rcases Nat.lt_or_ge i ds.length with z | z
      · exact z
      · rw [List.drop_eq_nil_of_le z] at hd; cases hd
    rw [List.drop_eq_getElem_cons hlt] at hd
    injection hd with a b
    obtain ⟨ρ1, ρ', st', h1, h2, h3⟩ := h i d ρ st (by rw [List.getElem?_eq_getElem hlt, a]) hp
    exact ⟨ρ1, ρ', st', h1, h2, i + 1, b, hlt, h3⟩) ⟨0, by simp, Nat.zero_le _, h0⟩
  refine ⟨ρ', st', e, ?_⟩
  have : i = ds.length := by
    have := congrArg List.length hi
    simp at this
    omega
  rw [← this]; exact hp.2
end VL

/-! the draws, second kind: [turn, left, cells] -/
namespace VL
open PySem PySem.Spec PyProof.Rows L2
noncomputable def dB_open : FM := entry 3 1 leaveN (sSeq (sSet 1 (vFz (nLc (iSeq (vSl (vVar 0) (oNone) (oSome (vC (.int 63))))) (gSet 2) (fYes) (vCall (one absP) (aCons (vCall (one intP1) (aCons (vVar 2) (aNil))) (aNil))) [2])))
  (sRet (vOwn (nLst (aCons (vC (.int 0)) (aCons (vC (.int 0)) (aCons (vBin addP (vVar 1) (vFz (nLst (aCons (vC (.int 0)) (aNil))))) (aNil))))))))
noncomputable def dB_mixed : FM := entry 3 2 leaveF (sSeq (sSet 2 (vBin modP (vBin addP (vBin addP (vBin mulP (vBin modP (vVar 0) (vBin subP (vBin powP (vC (.int 2)) (vC (.int 61))) (vC (.int 1)))) (vC (.int 6364136223846793005))) (vBin mulP (vVar 1) (vC (.int 1442695040888963407)))) (vC (.int 97))) (vBin powP (vC (.int 2)) (vC (.int 61)))))
  (sSeq (sSet 2 (vBin modP (vBin mulP (vBin xorP (vVar 2) (vBin shrP (vVar 2) (vC (.int 29)))) (vC (.int 3935559000370003845))) (vBin powP (vC (.int 2)) (vC (.int 61)))))
  (sRet (vBin modP (vBin mulP (vBin xorP (vVar 2) (vBin shrP (vVar 2) (vC (.int 31)))) (vC (.int 2862933555777941757))) (vBin powP (vC (.int 2)) (vC (.int 61)))))))
noncomputable def dB_draw : FM := entry 6 2 leaveF (sSeq (sAsg (vVar 0) (gTupV 3 (gsCons (gSet 2) (gsCons (gSet 3) (gsCons (gSet 4) (gsNil))))))
  (sSeq (sIf (asB (vBin ltP (vVar 3) (vVar 1))) (sSeq (sSet 5 (vBinD ixD (vVar 4) (vBin modP (vVar 2) (vCall (one lenP) (aCons (vVar 4) (aNil))))))
  (sSeq (sSet 3 (vIf (vAnd (asB (vBin ltP (vVar 2) (vCall (one lenP) (aCons (vVar 4) (aNil))))) (asB (vBin geP (vVar 5) (vBin powP (vC (.int 10)) (vC (.int 18)))))) (vVar 5) (vDef 2 dB_mixed (aCons (vVar 5) (aCons (vVar 2) (aNil))))))
  (sSet 2 (vBin addP (vVar 2) (vC (.int 1)))))) (sNil))
  (sSeq (sPut (vVar 2) (vVar 0) (vC (.int 0)))
  (sSeq (sPut (vBin fdivP (vVar 3) (vVar 1)) (vVar 0) (vC (.int 1)))
  (sRet (vBin modP (vVar 3) (vVar 1)))))))
theorem mul_okL {a b : Int} (h : a.natAbs < 2 ^ 63 := by decide) : PySem.IntMulOk b a := by
  have : IntMulOk b a := by
    refine CMul.ok (.inr ?_)
    omega
  exact this
theorem CPow_small {i j : Int} (h : 0 ≤ j := by decide) (h1 : j ≤ 1000000 := by decide) (h2 : i.natAbs < 2 ^ 64 := by decide) : CPow i j := ⟨h, h1, h2⟩
def mixI (c t : Int) : Int :=
  let n := (c % (2 ^ 61 - 1) * 6364136223846793005 + t * 1442695040888963407 + 97) % 2 ^ 61
  let n := (Builtin.bitXor n (n / 2 ^ 29)) * 3935559000370003845 % 2 ^ 61
  (Builtin.bitXor n (n / 2 ^ 31)) * 2862933555777941757 % 2 ^ 61
theorem mixed_ok (c t : Int) (st : Store) : dB_mixed [.p (.int c), .p (.int t)] st = .ok (.p (.int (mixI c t)), st) := by
  unfold dB_mixed
  have e1 : CPow 2 61 := CPow_small
  simp [mul_okL, e1]
  rfl
/-- the draws' list -/
def DrB (ob : Ob) : Prop := ∃ (t l : Int) (cells : List Int), ob = .lst [.int t, .int l, .list (cells.map .int)] ∧ cells ≠ []
theorem drawB_ok {st : Store} {k : Nat} {ob : Ob} {size : Int} (hk : st[k]? = some ob) (hd : DrB ob) (h0 : 0 < size) (h1 : size < 2 ^ 60) :
    ∃ v ob', dB_draw [.loc k, .p (.int size)] st = .ok (.p (.int v), st.set k ob') ∧ DrB ob' ∧ 0 ≤ v ∧ v < size := by
  obtain ⟨t, l, cells, rfl, hc⟩ := hd
  have hkl : k < st.length := (List.getElem?_eq_some_iff.mp hk).1
  have hlen : 0 < (cells.length : Int) := by
    have := List.length_pos_iff.mpr hc
    omega
  have hlN : 0 < cells.length := List.length_pos_iff.mpr hc
  have hdiv : ∀ l : Int, CDivW l size := fun l => wide_div h0 (b := 60) (by omega) (by decide) (by decide)
  have e1 : CPow 10 18 := CPow_small
  have hp : peek st (.loc k) = .ok (.list [.int t, .int l, .list (cells.map .int)]) := peek_lst hk
  obtain ⟨c, hcc⟩ : ∃ c : Int, atI (cells.map PyData.int) (t % (cells.length : Int)) = some (.int c) := by
    have h1 := Int.emod_nonneg t (Int.ne_of_gt hlen)
    have h2 := Int.emod_lt_of_pos t hlen
    obtain ⟨j, hj⟩ : ∃ j : Nat, t % (cells.length : Int) = (j : Int) := ⟨(t % (cells.length : Int)).toNat, by omega⟩
    rw [hj] at h2 ⊢
    have hj2 : j < cells.length := by omega
    exact ⟨cells[j], atI_get (by rw [List.getElem?_map, List.getElem?_eq_getElem hj2]; rfl)⟩
  have hsp : ∀ ob, (st.set k ob).take st.length = st.set k ob := fun ob => List.take_of_length_le (by simp)
  have p0 : ∀ d, putS st (.loc k) (.int 0) d = .ok (st.set k (.lst [d, .int l, .list (cells.map .int)])) := fun d => putS_lst hk (j := 0) (by rfl)
  have p1 : ∀ a b c d, putS (st.set k (.lst [a, b, c])) (.loc k) (.int 1) d = .ok (st.set k (.lst [a, d, c])) := fun a b c d => by
    rw [putS_lst (set_get hkl _) (j := 1) (by rfl)]; simp
  have fin : ∀ (t' l' : Int), dB_draw [.loc k, .p (.int size)] st = .ok (.p (.int (l' % size)), st.set k (.lst [.int t', .int (l' / size), .list (cells.map .int)])) →
      ∃ v ob', dB_draw [.loc k, .p (.int size)] st = .ok (.p (.int v), st.set k ob') ∧ DrB ob' ∧ 0 ≤ v ∧ v < size := fun t' l' e =>
    ⟨l' % size, _, e, ⟨t', l' / size, cells, rfl, hc⟩, Int.emod_nonneg _ (Int.ne_of_gt h0), Int.emod_lt_of_pos _ h0⟩
  by_cases hl : l < size
  · by_cases h2 : t < (cells.length : Int) ∧ 10 ^ 18 ≤ c
    · refine fin (t + 1) c ?_
      have h3 : (1000000000000000000 : Int) ≤ c := h2.2
      simp [dB_draw, hp, hl, hlen, hlN, hcc, e1, h2.1, h3, p0, p1, hdiv, h0, hsp]
    · refine fin (t + 1) (mixI c t) ?_
      have h3 : t < (cells.length : Int) → ¬ (1000000000000000000 : Int) ≤ c := fun a b => h2 ⟨a, b⟩
      by_cases h4 : t < (cells.length : Int)
      · simp [dB_draw, hp, hl, hlen, hlN, hcc, e1, h4, h3 h4, p0, p1, hdiv, h0, hsp, mixed_ok]
      · simp [dB_draw, hp, hl, hlen, hlN, hcc, e1, h4, p0, p1, hdiv, h0, hsp, mixed_ok]
  · refine fin t l ?_
    simp [dB_draw, hp, hl, p0, p1, hdiv, h0, hsp]
theorem openB_ok (ns : List Int) (st : Store) : ∃ ob, dB_open [.p (.list (ns.map .int))] st = .ok (.loc st.length, st ++ [ob]) ∧ DrB ob := by
  obtain ⟨L, hm, hL⟩ : ∃ L : List Int, lcG ⟨List.take 63 (ns.map .int), none⟩ (gSet 2) fYes (vCall (one absP) (aCons (vCall (one intP1) (aCons (vVar 2) (aNil))) (aNil))) [some (.p (.list (ns.map .int))), none, none] (List.take 63 (ns.map .int)) st = .ok (L.map .int, st) ∧ L.length ≤ 63 := by
    refine ⟨(ns.take 63).map (fun n : Int => (n.natAbs : Int)), ?_, by rw [List.length_map, List.length_take]; exact Nat.min_le_left _ _⟩
    rw [← List.map_take, lcG_mapA PyData.int (fun n : Int => .int (n.natAbs : Int)) fun d hd => ⟨_, rfl, by simp⟩, List.map_map]
    rfl
  refine ⟨.lst [.int 0, .int 0, .list ((L ++ [0]).map .int)], ?_, ⟨0, 0, _, rfl, by simp⟩⟩
  have h1 : L.length ≤ 16777216 := Nat.le_trans hL (by decide)
  have h2 : addP (.list (L.map .int)) (.list [.int 0]) = .ok (.list (L.map .int ++ [.int 0])) := addP_lst (by simp; omega)
  simp [dB_open, hm, h1, h2]
end VL

/-! plain facts: ranges, maxima, minima, first places -/
namespace VL
open PySem PySem.Spec PyProof.Rows L2
@[simp] theorem rangeD_nat (n : Nat) : rangeD 0 (n : Int) = (List.range n).map fun (i : Nat) => PyData.int (i : Int) := by
  unfold rangeD
  simp
theorem range_get {n i : Nat} {d : PyData} (h : ((List.range n).map fun (i : Nat) => PyData.int (i : Int))[i]? = some d) : i < n ∧ d = .int i := by
  rw [List.getElem?_map] at h
  cases e : (List.range n)[i]? with
  | none => rw [e] at h; cases h
  | some j =>
    rw [e] at h
    obtain ⟨h1, h2⟩ := List.getElem?_eq_some_iff.mp e
    rw [List.getElem_range] at h2
    cases h
    exact ⟨by simpa using h1, by rw [h2]⟩
theorem mem_range {n : Nat} {d : PyData} (h : d ∈ (List.range n).map fun (i : Nat) => PyData.int (i : Int)) : ∃ i : Nat, i < n ∧ d = .int i := by
  obtain ⟨i, hi, rfl⟩ := List.mem_map.mp h
  exact ⟨i, List.mem_range.mp hi, rfl⟩
theorem atI_range {α : Type} (f : Nat → α) {n i : Nat} (h : i < n) : atI ((List.range n).map f) (i : Int) = some (f i) :=
  atI_nat (by rw [List.getElem?_map, List.getElem?_range h]; rfl)
theorem in62 {i : Int} (h : 0 ≤ i) (h1 : i ≤ 1000000) : In62 i := by unfold In62; omega
/-- the maximum of a and f's first values -/
def pm (a : Int) (f : Nat → Int) (n : Nat) : Int := ((List.range n).map f).foldl max a
def ps (f : Nat → Int) (n : Nat) : Int := ((List.range n).map f).sum
@[simp] theorem pm_zero (a : Int) (f : Nat → Int) : pm a f 0 = a := rfl
@[simp] theorem pm_succ (a : Int) (f : Nat → Int) (n : Nat) : pm a f (n + 1) = max (pm a f n) (f n) := by
  unfold pm; rw [List.range_succ, List.map_append, List.foldl_append]; rfl
@[simp] theorem ps_zero (f : Nat → Int) : ps f 0 = 0 := rfl
@[simp] theorem ps_succ (f : Nat → Int) (n : Nat) : ps f (n + 1) = ps f n + f n := by
  unfold ps; rw [List.range_succ, List.map_append, List.sum_append]; simp
theorem pm_le {a : Int} {f : Nat → Int} {b : Int} : ∀ {n : Nat}, pm a f n ≤ b ↔ a ≤ b ∧ ∀ j, j < n → f j ≤ b
  | 0 => by simp
  | n + 1 => by
    rw [pm_succ, Int.max_le, pm_le]
    constructor
    · rintro ⟨⟨h1, h2⟩, h3⟩
      refine ⟨h1, fun j hj => ?_⟩
      rcases Nat.lt_succ_iff_lt_or_eq.mp hj with z | z
      · exact h2 j z
      · rw [z]; exact h3
    · rintro ⟨h1, h2⟩
      exact ⟨⟨h1, fun j hj => h2 j (Nat.lt_succ_of_lt hj)⟩, h2 n (Nat.lt_succ_self n)⟩
theorem pm_ge {a : Int} {f : Nat → Int} {n j : Nat} (h : j < n) : f j ≤ pm a f n := (pm_le.mp (Int.le_refl (pm a f n))).2 j h
theorem pm_ge0 {a : Int} {f : Nat → Int} {n : Nat} : a ≤ pm a f n := (pm_le.mp (Int.le_refl (pm a f n))).1
theorem pm_first {f : Nat → Int} {m : Nat} : ((List.range m).map fun j => f (j + 1)).foldl max (f 0) = pm (f 0) f (m + 1) := by
  unfold pm
  rw [List.range_succ_eq_map, List.map_cons, List.foldl_cons, Int.max_self, List.map_map]; rfl
theorem pm_start {a : Int} {f : Nat → Int} {n : Nat} (hn : 0 < n) (h : ∀ j, j < n → a ≤ f j) : pm a f n = pm (f 0) f n := by
  apply Int.le_antisymm
  · exact pm_le.mpr ⟨Int.le_trans (h 0 hn) (pm_ge hn), fun j hj => pm_ge hj⟩
  · exact pm_le.mpr ⟨pm_ge hn, fun j hj => pm_ge hj⟩
theorem pm_row {a : Int} {f : Nat → Int} {b : Int} (n : Nat) (h : b ≤ a) : pm a f n = max a (pm b f n) := by
  apply Int.le_antisymm
  · exact pm_le.mpr ⟨Int.le_max_left _ _, fun j hj => Int.le_trans (pm_ge hj) (Int.le_max_right _ _)⟩
  · refine Int.max_le.mpr ⟨pm_ge0, pm_le.mpr ⟨Int.le_trans h pm_ge0, fun j hj => pm_ge hj⟩⟩
/-- the first place of the least of f's values up to m -/
def am (f : Nat → Int) : Nat → Nat
  | 0 => 0
  | k + 1 => if f (k + 1) < f (am f k) then k + 1 else am f k
theorem am_succ (f : Nat → Int) (k : Nat) : am f (k + 1) = if f (k + 1) < f (am f k) then k + 1 else am f k := rfl
theorem am_spec (f : Nat → Int) : ∀ m, am f m ≤ m ∧ (∀ j, j ≤ m → f (am f m) ≤ f j) ∧ ∀ j, j < am f m → f (am f m) < f j
  | 0 => by
    refine ⟨Nat.le_refl _, fun j hj => ?_, fun j hj => ?_⟩
    · have : j = 0 := by omega
      rw [this]; exact Int.le_refl _
    · simp [am] at hj
  | m + 1 => by
    obtain ⟨h1, h2, h3⟩ := am_spec f m
    unfold am
    split
    · rename_i h
      refine ⟨Nat.le_refl _, fun j hj => ?_, fun j hj => ?_⟩
      · rcases Nat.lt_or_ge j (m + 1) with z | z
        · have := h2 j (by omega); omega
        · have : j = m + 1 := by omega
          rw [this]; exact Int.le_refl _
      · have := h2 j (by omega); omega
    · rename_i h
      refine ⟨by omega, fun j hj => ?_, h3⟩
      rcases Nat.lt_or_ge j (m + 1) with z | z
      · exact h2 j (by omega)
      · have : j = m + 1 := by omega
        rw [this]; omega
/-- data of at most this depth, without dicts -/
def Shp (n : Nat) (d : PyData) : Prop := d.canLay0 = true ∧ d.depth ≤ n
theorem Shp.int (n : Nat) (i : Int) : Shp n (.int i) := ⟨by simp [PyData.canLay0], by simp [PyData.depth]⟩
theorem Shp.bool (n : Nat) (i : Bool) : Shp n (.bool i) := ⟨by simp [PyData.canLay0], by simp [PyData.depth]⟩
theorem Shp.non (n : Nat) : Shp n .none := ⟨by simp [PyData.canLay0], by simp [PyData.depth]⟩
theorem Shp.all {n : Nat} : ∀ {l : List PyData}, (∀ x ∈ l, Shp n x) → PyData.canLayAll0 l = true ∧ PyData.depthAll l ≤ n
  | [], _ => ⟨by simp [PyData.canLayAll0], by simp [PyData.depthAll]⟩
  | d :: r, h => by
    obtain ⟨h1, h2⟩ := h d List.mem_cons_self
    obtain ⟨h3, h4⟩ := Shp.all fun x hx => h x (List.mem_cons_of_mem _ hx)
    exact ⟨by simp [PyData.canLayAll0, h1, h3], by simp only [PyData.depthAll]; omega⟩
theorem Shp.lst {n : Nat} {l : List PyData} (h : ∀ x ∈ l, Shp n x) : Shp (n + 1) (.list l) := by
  obtain ⟨h1, h2⟩ := Shp.all h
  exact ⟨by simpa [PyData.canLay0] using h1, by simp only [PyData.depth]; omega⟩
theorem Shp.tup {n : Nat} {l : List PyData} (h : ∀ x ∈ l, Shp n x) : Shp (n + 1) (.tuple l) := by
  obtain ⟨h1, h2⟩ := Shp.all h
  exact ⟨by simpa [PyData.canLay0] using h1, by simp only [PyData.depth]; omega⟩
theorem Shp.mono {n m : Nat} {d : PyData} (h : Shp n d) (hm : n ≤ m) : Shp m d := ⟨h.1, Nat.le_trans h.2 hm⟩
theorem Shp.ok {n : Nat} {d : PyData} (h : Shp n d) (hn : n ≤ 64 := by decide) : SeqAt.shaped d = true := by
  unfold SeqAt.shaped
  rw [h.1, decide_eq_true (Nat.le_trans h.2 hn)]; rfl
theorem Shp.ints (n : Nat) (l : List Int) : ∀ x ∈ l.map PyData.int, Shp n x := fun x hx => by
  obtain ⟨i, _, rfl⟩ := List.mem_map.mp hx
  exact .int n i
theorem shaped_ints (l : List Int) : SeqAt.shaped (.list (l.map .int)) = true ∧ SeqAt.shaped (.tuple (l.map .int)) = true := ⟨(Shp.lst (Shp.ints 0 l)).ok, (Shp.tup (Shp.ints 0 l)).ok⟩
theorem mm_ints (l : List Int) : MmOk (l.map .int) := by
  unfold MmOk
  simp [List.all_eq_true, PySem.W.alike, isNone]
theorem shaped_pair (a b : Int) : SeqAt.shaped (.tuple [.int a, .int b]) = true := (shaped_ints [a, b]).2
theorem mm_pairs {α : Type} (f g : α → Int) (l : List α) : MmOk (l.map fun x => .tuple [.int (f x), .int (g x)]) := by
  unfold MmOk
  simp [List.all_eq_true, PySem.W.alike, PySem.W.alikeAll, isNone, shaped_pair]
/-- max(ints), given by their places -/
theorem maxP_row (f : Nat → Int) {n : Nat} (hn : 0 < n) : maxP [.tuple ((List.range n).map fun j => .int (f j))] = .ok (.int (pm (f 0) f n)) ∧ maxP [.list ((List.range n).map fun j => .int (f j))] = .ok (.int (pm (f 0) f n)) := by
  obtain ⟨m, rfl⟩ : ∃ m, n = m + 1 := ⟨n - 1, by omega⟩
  have e : (List.range (m + 1)).map (fun j => PyData.int (f j)) = PyData.int (f 0) :: ((List.range m).map fun j => f (j + 1)).map PyData.int := by
    rw [List.range_succ_eq_map, List.map_cons, List.map_map, List.map_map]; rfl
  have hm : MmOk (PyData.int (f 0) :: ((List.range m).map fun j => f (j + 1)).map PyData.int) := mm_ints (f 0 :: (List.range m).map fun j => f (j + 1))
  constructor <;>
  · simp only [maxP, mmP, itemsOf, e]
    rw [if_pos hm, PySem.W.maxD_ints, pm_first]
/-- min of pairs of a value and its place -/
theorem minP_pairs (f : Nat → Int) (m : Nat) : minP [.list ((List.range (m + 1)).map fun j => .tuple [.int (f j), .int (j : Int)])] = .ok (.tuple [.int (f (am f m)), .int (am f m : Int)]) := by
  have e : (List.range (m + 1)).map (fun (j : Nat) => PyData.tuple [.int (f j), .int (j : Int)]) = PyData.tuple [.int (f 0), .int 0] :: (List.range m).map fun (j : Nat) => PyData.tuple [.int (f (j + 1)), .int ((j + 1 : Nat) : Int)] := by
    rw [List.range_succ_eq_map, List.map_cons, List.map_map]; rfl
  have hm : MmOk ((List.range (m + 1)).map fun (j : Nat) => PyData.tuple [.int (f j), .int (j : Int)]) := mm_pairs _ _ _
  have key : ∀ k, PySem.W.minD (PyData.tuple [.int (f 0), .int 0]) ((List.range k).map fun (j : Nat) => PyData.tuple [.int (f (j + 1)), .int ((j + 1 : Nat) : Int)]) = .tuple [.int (f (am f k)), .int (am f k : Int)] := by
    intro k
    induction k with
    | zero => rfl
    | succ k ih =>
      unfold PySem.W.minD at ih ⊢
      rw [List.range_succ, List.map_append, List.foldl_append, ih]
      simp only [List.map_cons, List.map_nil, List.foldl_cons, List.foldl_nil, PySem.W.dataLt_ii]
      have hle := (am_spec f k).1
      rw [am_succ]
      by_cases h : f (k + 1) < f (am f k)
      · rw [if_pos h, if_pos (by simp [h])]
      · rw [if_neg h, if_neg (by simp; omega)]
  rw [e] at hm ⊢
  simp only [minP, mmP, itemsOf]
  rw [if_pos hm, key m]
/-- min(ints) -/
theorem minP_ints (f : Nat → Int) (m : Nat) : minP [.list ((List.range (m + 1)).map fun j => .int (f j))] = .ok (.int (f (am f m))) := by
  have e : (List.range (m + 1)).map (fun j => PyData.int (f j)) = PyData.int (f 0) :: ((List.range m).map fun j => f (j + 1)).map PyData.int := by
    rw [List.range_succ_eq_map, List.map_cons, List.map_map, List.map_map]; rfl
  have hm : MmOk (PyData.int (f 0) :: ((List.range m).map fun j => f (j + 1)).map PyData.int) := mm_ints (f 0 :: (List.range m).map fun j => f (j + 1))
  have key : ∀ k, ((List.range k).map fun j => f (j + 1)).foldl min (f 0) = f (am f k) := by
    intro k
    induction k with
    | zero => rfl
    | succ k ih =>
      rw [List.range_succ, List.map_append, List.foldl_append, ih]
      simp only [List.map_cons, List.map_nil, List.foldl_cons, List.foldl_nil]
      rw [am_succ]
      split <;> omega
  simp only [minP, mmP, itemsOf, e]
  rw [if_pos hm, PySem.W.minD_ints, key m]
/-- the place of the least -/
theorem idx_am (f : Nat → Int) (m : Nat) : idxOf ((List.range (m + 1)).map fun j => .int (f j)) (.int (f (am f m))) = some (am f m) := by
  obtain ⟨h1, h2, h3⟩ := am_spec f m
  unfold idxOf
  rw [List.findIdx?_eq_some_iff_getElem]
  refine ⟨by simpa using Nat.lt_succ_of_le h1, by simp, fun j hj => ?_⟩
  have := h3 j hj
  simp
  omega
end VL

/-! maps of places, drawn (second kind of draws) -/
namespace VL
open PySem PySem.Spec PyProof.Rows L2
noncomputable def dB_map_c1 : FE := vTup (aCons (vDef 2 dB_draw (aCons (vVar 0) (aCons (vC (.int 30)) (aNil)))) (aCons (vBin mulP (vDef 2 dB_draw (aCons (vVar 0) (aCons (vC (.int 20)) (aNil)))) (vVar 3)) (aNil)))
noncomputable def dB_map_c2 : FE := vBin addP (vCall (one absP) (aCons (vBin subP (vBinD ixD (vVar 5) (vC (.int 0))) (vBinD ixD (vVar 8) (vC (.int 0)))) (aNil))) (vCall (one absP) (aCons (vBin subP (vBinD ixD (vVar 5) (vC (.int 1))) (vBinD ixD (vVar 8) (vC (.int 1)))) (aNil)))
noncomputable def dB_map_c3 : FE := vCall (one tupleP) (aCons (vFz (nLc (iSeq (vVar 7)) (gSet 8) (fYes) (dB_map_c2) [8])) (aNil))
noncomputable def dB_map_b1 : FS := sSeq (sPut (vBin addP (vC (.int 1)) (vDef 2 dB_draw (aCons (vVar 0) (aCons (vC (.int 40)) (aNil))))) (vVar 4) (vTup (aCons (vVar 5) (aCons (vVar 8) (aNil)))))
  (sPut (vBinD ixD (vVar 4) (vTup (aCons (vVar 5) (aCons (vVar 8) (aNil))))) (vVar 4) (vTup (aCons (vVar 8) (aCons (vVar 5) (aNil)))))
noncomputable def dB_map_b2 : FS := sSeq (sFor (iRange1 (vVar 5)) (gSet 8) (dB_map_b1))
  (sPut (vC (.int 0)) (vVar 4) (vTup (aCons (vVar 5) (aCons (vVar 5) (aNil)))))
noncomputable def dB_map_b3 : FS := sPut (vCall minP (aCons (vBinD ixD (vVar 4) (vTup (aCons (vVar 5) (aCons (vVar 8) (aNil))))) (aCons (vBin addP (vBinD ixD (vVar 4) (vTup (aCons (vVar 5) (aCons (vVar 6) (aNil))))) (vBinD ixD (vVar 4) (vTup (aCons (vVar 6) (aCons (vVar 8) (aNil)))))) (aNil)))) (vVar 4) (vTup (aCons (vVar 5) (aCons (vVar 8) (aNil))))
noncomputable def dB_map_b4 : FS := sFor (iRange1 (vVar 2)) (gSet 8) (dB_map_b3)
noncomputable def dB_map_b5 : FS := sFor (iRange1 (vVar 2)) (gSet 5) (dB_map_b4)
noncomputable def dB_map_c4 : FE := vBinD ixD (vVar 4) (vTup (aCons (vVar 5) (aCons (vVar 8) (aNil))))
noncomputable def dB_map_c5 : FE := vCall (one tupleP) (aCons (vFz (nLc (iRange1 (vVar 2)) (gSet 8) (fYes) (dB_map_c4) [8])) (aNil))
noncomputable def dB_map : FM := entry 10 2 leaveF (sSeq (sSet 2 (vBin addP (vC (.int 1)) (vDef 2 dB_draw (aCons (vVar 0) (aCons (vVar 1) (aNil))))))
  (sSeq (sSet 3 (vDef 2 dB_draw (aCons (vVar 0) (aCons (vC (.int 3)) (aNil)))))
  (sSeq (sIf (asB (vBin ltP (vVar 3) (vC (.int 2)))) (sSeq (sSet 7 (vFz (nLc (iRange1 (vVar 2)) (gSet 9) (fYes) (dB_map_c1) [9])))
  (sRet (vCall (one tupleP) (aCons (vFz (nLc (iSeq (vVar 7)) (gSet 5) (fYes) (dB_map_c3) [5])) (aNil))))) (sNil))
  (sSeq (sSet 4 (vOwn (nDct true)))
  (sSeq (sFor (iRange1 (vVar 2)) (gSet 5) (dB_map_b2))
  (sSeq (sFor (iRange1 (vVar 2)) (gSet 6) (dB_map_b5))
  (sRet (vCall (one tupleP) (aCons (vFz (nLc (iRange1 (vVar 2)) (gSet 5) (fYes) (dB_map_c5) [5])) (aNil))))))))))

/-- n rows of n numbers -/
def plan (n : Nat) (D : Nat → Nat → Int) : PyData := .tuple ((List.range n).map fun i => .tuple ((List.range n).map fun j => .int (D i j)))
/-- what a map is -/
structure MapOk (n : Nat) (D : Nat → Nat → Int) : Prop where
  one : 0 < n
  most : n ≤ 8
  dia : ∀ i, i < n → D i i = 0
  nn : ∀ i j, i < n → j < n → 0 ≤ D i j
  sym : ∀ i j, i < n → j < n → D i j = D j i
  tri : ∀ i j k, i < n → j < n → k < n → D i j ≤ D i k + D k j
section
variable {n : Nat} {D : Nat → Nat → Int}
theorem plan_at {i : Nat} (h : i < n) : atI ((List.range n).map fun i => PyData.tuple ((List.range n).map fun j => .int (D i j))) (i : Int) = some (.tuple ((List.range n).map fun j => .int (D i j))) := atI_range _ h
theorem row_at (i : Nat) {j : Nat} (h : j < n) : atI ((List.range n).map fun j => PyData.int (D i j)) (j : Int) = some (.int (D i j)) := atI_range _ h
end
/-! ### the map that is drawn -/
theorem drawB1 {ob : Ob} (hd : DrB ob) (r : List Ob) {size : Int} (h0 : 0 < size) (h1 : size < 2 ^ 60) : ∃ v ob', dB_draw [.loc 0, .p (.int size)] (ob :: r) = .ok (.p (.int v), ob' :: r) ∧ DrB ob' ∧ 0 ≤ v ∧ v < size := by
  obtain ⟨v, ob', e, a, b, c⟩ := drawB_ok (st := ob :: r) (k := 0) (size := size) rfl hd h0 h1
  exact ⟨v, ob', by rw [e]; rfl, a, b, c⟩
theorem list_fn {α : Type} [Inhabited α] (c : α → PyData) {l : List PyData} (h : ∀ v ∈ l, ∃ a, v = c a) : ∃ f : Nat → α, l = (List.range l.length).map fun i => c (f i) := by
  induction l with
  | nil => exact ⟨fun _ => default, rfl⟩
  | cons d r ih =>
    obtain ⟨f, hf⟩ := ih fun v hv => h v (List.mem_cons_of_mem _ hv)
    obtain ⟨a, rfl⟩ := h d List.mem_cons_self
    refine ⟨fun i => match i with | 0 => a | i + 1 => f i, ?_⟩
    rw [List.length_cons, List.range_succ_eq_map, List.map_cons, List.map_map]
    congr 1
theorem street {n : Nat} (h0 : 0 < n) (h8 : n ≤ 8) (f g : Nat → Int) : MapOk n (fun i j => ((f i - f j).natAbs : Int) + ((g i - g j).natAbs : Int)) :=
  ⟨h0, h8, fun i _ => by show ((f i - f i).natAbs : Int) + ((g i - g i).natAbs : Int) = 0; omega, fun i j _ _ => by show (0 : Int) ≤ ((f i - f j).natAbs : Int) + _; omega, fun i j _ _ => by show ((f i - f j).natAbs : Int) + ((g i - g j).natAbs : Int) = _; omega, fun i j k _ _ _ => by
    show ((f i - f j).natAbs : Int) + ((g i - g j).natAbs : Int) ≤ ((f i - f k).natAbs : Int) + ((g i - g k).natAbs : Int) + (((f k - f j).natAbs : Int) + ((g k - g j).natAbs : Int)); omega⟩
def ky (a b : Nat) : PyData := .tuple [.int (a : Int), .int (b : Int)]
theorem ky_inj {a b c d : Nat} : ky a b = ky c d ↔ a = c ∧ b = d := by
  unfold ky
  constructor
  · intro h
    injection h with h
    injection h with h1 h2
    injection h2 with h2 _
    injection h1 with h1
    injection h2 with h2
    omega
  · rintro ⟨rfl, rfl⟩; rfl
theorem get_put (ds : List (PyData × PyData)) (a b c d : Nat) (v : PyData) : getP (putP ds (ky a b) v) (ky c d) = if a = c ∧ b = d then some v else getP ds (ky c d) := by
  rw [getP_put]
  by_cases h : a = c ∧ b = d
  · rw [if_pos h, if_pos (ky_inj.mpr h)]
  · rw [if_neg h, if_neg fun z => h (ky_inj.mp z)]
/-- numbers between places, none to oneself -/
structure Dst (D : Nat → Nat → Int) : Prop where
  nn : ∀ i j, 0 ≤ D i j
  sym : ∀ i j, D i j = D j i
  dia : ∀ i, D i i = 0
def At (ds : List (PyData × PyData)) (D : Nat → Nat → Int) (P : Nat → Nat → Prop) : Prop := ∀ a b, P a b → getP ds (ky a b) = some (.int (D a b))
theorem put_tab (ob : Ob) (ds : List (PyData × PyData)) (a b : Nat) (v : PyData) (h : ds.length < 1000000) : putS [ob, .dct true ds] (.loc 1) (.tuple [.int (a : Int), .int (b : Int)]) v = .ok [ob, .dct true (putP ds (ky a b) v)] := by
  rw [putS_dct (st := [ob, .dct true ds]) (k := 1) (t := true) (ds := ds) rfl rfl (Nat.lt_trans h (by decide))]; rfl
theorem get_tab (ob : Ob) (ds : List (PyData × PyData)) (a b : Nat) {v : PyData} (h : getP ds (ky a b) = some v) : ixD [ob, .dct true ds] (.loc 1) (.p (.tuple [.int (a : Int), .int (b : Int)])) = .ok v := by
  rw [ixD_dct (st := [ob, .dct true ds]) (k := 1) (t := true) (ds := ds) rfl rfl]
  show optR (getP ds (ky a b)) = _
  rw [h]; rfl
section
variable (most kind : PyData) (n : Nat)
/-- the inner filling -/
theorem fill1 (x3 x6 x7 x8 x9 : Option Vd) {i : Nat} (ob : Ob) (ds : List (PyData × PyData)) (D : Nat → Nat → Int) (hd : DrB ob) (hD : Dst D) (hA : At ds D fun a b => a < i ∧ b < i) (hl : ds.length ≤ 1000 * i) (hi : i < 8) :
    ∃ x ob' ds' D', forG ⟨(List.range i).map fun (j : Nat) => PyData.int (j : Int), none⟩ (gSet 8) dB_map_b1 ((List.range i).map fun (j : Nat) => PyData.int (j : Int))
      [some (.loc 0), some (.p most), some (.p (.int n)), x3, some (.loc 1), some (.p (.int i)), x6, x7, x8, x9] [ob, .dct true ds] =
    .ok (.nx, [some (.loc 0), some (.p most), some (.p (.int n)), x3, some (.loc 1), some (.p (.int i)), x6, x7, x, x9], [ob', .dct true ds']) ∧ DrB ob' ∧ Dst D' ∧ (At ds' D' fun a b => a < i + 1 ∧ b < i + 1 ∧ ¬ (a = i ∧ b = i)) ∧ ds'.length ≤ 1000 * i + 2 * i := by
  obtain ⟨ρ', st', e, x, ob', ds', D', e1, e2, h1, h2, h3, h4⟩ := forG_ix (src := (List.range i).map fun (j : Nat) => PyData.int (j : Int)) (gt := gSet 8) (body := dB_map_b1) (ds := (List.range i).map fun (j : Nat) => PyData.int (j : Int)) (st := [ob, .dct true ds])
    (ρ := [some (.loc 0), some (.p most), some (.p (.int n)), x3, some (.loc 1), some (.p (.int i)), x6, x7, x8, x9])
    (fun j ρ s => ∃ x ob' ds' D', ρ = [some (.loc 0), some (.p most), some (.p (.int n)), x3, some (.loc 1), some (.p (.int i)), x6, x7, x, x9] ∧ s = [ob', .dct true ds'] ∧ DrB ob' ∧ Dst D' ∧ (At ds' D' fun a b => (a < i ∧ b < i) ∨ (a = i ∧ b < j) ∨ (a < j ∧ b = i)) ∧ ds'.length ≤ 1000 * i + 2 * j)
    (fun j d ρ s hd hP => by
      obtain ⟨hj, rfl⟩ := range_get hd
      obtain ⟨x, ob', ds', D', rfl, rfl, q1, q2, q3, q4⟩ := hP
      obtain ⟨v, ob2, ev, r1, r2, r3⟩ := drawB1 q1 [.dct true ds'] (size := 40) (by decide) (by decide)
      have g1 : getP (putP ds' (ky i j) (.int (1 + v))) (ky i j) = some (.int (1 + v)) := by rw [get_put, if_pos ⟨rfl, rfl⟩]
      have hl1 : ds'.length < 1000000 := by omega
      have hl2 : (putP ds' (ky i j) (.int (1 + v))).length < 1000000 := Nat.lt_of_le_of_lt putP_len (by omega)
      have hl3 : (putP (putP ds' (ky i j) (.int (1 + v))) (ky j i) (.int (1 + v))).length ≤ 1000 * i + 2 * (j + 1) := Nat.le_trans putP_len (Nat.le_trans (Nat.add_le_add_right putP_len 1) (by omega))
      refine ⟨_, _, _, rfl, .inl ?_, some (.p (.int j)), ob2, putP (putP ds' (ky i j) (.int (1 + v))) (ky j i) (.int (1 + v)), fun a b => if (a = i ∧ b = j) ∨ (a = j ∧ b = i) then 1 + v else D' a b, rfl, rfl, r1, ⟨fun a b => ?_, fun a b => ?_, fun a => ?_⟩, fun a b hab => ?_, hl3⟩
      · have p1 := put_tab ob2 ds' i j (.int (1 + v)) hl1
        have p2 := get_tab ob2 _ i j g1
        have p3 := put_tab ob2 _ j i (.int (1 + v)) hl2
        simp [dB_map_b1, ev, p1, p2, p3]
      · have := q2.nn a b
        show 0 ≤ (if (a = i ∧ b = j) ∨ (a = j ∧ b = i) then 1 + v else D' a b)
        split <;> omega
      · have := q2.sym a b
        show (if (a = i ∧ b = j) ∨ (a = j ∧ b = i) then 1 + v else D' a b) = (if (b = i ∧ a = j) ∨ (b = j ∧ a = i) then 1 + v else D' b a)
        by_cases c : (a = i ∧ b = j) ∨ (a = j ∧ b = i)
        · rw [if_pos c, if_pos (by omega)]
        · rw [if_neg c, if_neg (by omega)]; exact this
      · show (if (a = i ∧ a = j) ∨ (a = j ∧ a = i) then 1 + v else D' a a) = 0
        rw [if_neg (by omega)]; exact q2.dia a
      · have hab : (a < i ∧ b < i) ∨ (a = i ∧ b < j + 1) ∨ (a < j + 1 ∧ b = i) := hab
        show getP _ (ky a b) = some (.int (if (a = i ∧ b = j) ∨ (a = j ∧ b = i) then 1 + v else D' a b))
        rw [get_put, get_put]
        by_cases c1 : j = a ∧ i = b
        · rw [if_pos c1, if_pos (by omega)]
        · rw [if_neg c1]
          by_cases c2 : i = a ∧ j = b
          · rw [if_pos c2, if_pos (by omega)]
          · rw [if_neg c2, if_neg (by omega)]
            exact q3 a b (by omega))
    ⟨x8, ob, ds, D, rfl, rfl, hd, hD, fun a b hab => hA a b (by omega), by omega⟩
  refine ⟨x, ob', ds', D', by rw [e, e1, e2], h1, h2, fun a b hab => h3 a b (by simp only [List.length_map, List.length_range]; omega), by simpa using h4⟩
/-- the filling -/
theorem fill2 (hn8 : n ≤ 8) (ob : Ob) (hd : DrB ob) (x3 : Option Vd) :
    ∃ x5 x8 ob' ds' D', forG ⟨(List.range n).map fun (j : Nat) => PyData.int (j : Int), none⟩ (gSet 5) dB_map_b2 ((List.range n).map fun (j : Nat) => PyData.int (j : Int))
      [some (.loc 0), some (.p most), some (.p (.int n)), x3, some (.loc 1), none, none, none, none, none] [ob, .dct true []] =
    .ok (.nx, [some (.loc 0), some (.p most), some (.p (.int n)), x3, some (.loc 1), x5, none, none, x8, none], [ob', .dct true ds']) ∧ DrB ob' ∧ Dst D' ∧ (At ds' D' fun a b => a < n ∧ b < n) ∧ ds'.length ≤ 1000 * n := by
  obtain ⟨ρ', st', e, x5, x8, ob', ds', D', e1, e2, h1, h2, h3, h4⟩ := forG_ix (src := (List.range n).map fun (j : Nat) => PyData.int (j : Int)) (gt := gSet 5) (body := dB_map_b2) (ds := (List.range n).map fun (j : Nat) => PyData.int (j : Int)) (st := [ob, .dct true []])
    (ρ := [some (.loc 0), some (.p most), some (.p (.int n)), x3, some (.loc 1), none, none, none, none, none])
    (fun i ρ s => ∃ x5 x8 ob' ds' D', ρ = [some (.loc 0), some (.p most), some (.p (.int n)), x3, some (.loc 1), x5, none, none, x8, none] ∧ s = [ob', .dct true ds'] ∧ DrB ob' ∧ Dst D' ∧ (At ds' D' fun a b => a < i ∧ b < i) ∧ ds'.length ≤ 1000 * i)
    (fun i d ρ s hd hP => by
      obtain ⟨hi, rfl⟩ := range_get hd
      obtain ⟨x5, x8, ob', ds', D', rfl, rfl, q1, q2, q3, q4⟩ := hP
      obtain ⟨x, ob2, ds2, D2, e, r1, r2, r3, r4⟩ := fill1 most n x3 none none x8 none (i := i) ob' ds' D' q1 q2 q3 q4 (by omega)
      have h62 : In62 (i : Int) := in62 (by omega) (by omega)
      refine ⟨_, _, _, rfl, .inl ?_, some (.p (.int i)), x, ob2, putP ds2 (ky i i) (.int 0), D2, rfl, rfl, r1, r2, fun a b hab => ?_, Nat.le_trans putP_len (by omega)⟩
      · have p1 := put_tab ob2 ds2 i i (.int 0) (by omega)
        simp [dB_map_b2, h62, e, p1]
      · rw [get_put]
        by_cases c : i = a ∧ i = b
        · rw [if_pos c, ← c.1, ← c.2, r2.dia]
        · rw [if_neg c]; exact r3 a b (by omega))
    ⟨none, none, ob, [], fun _ _ => 0, rfl, rfl, hd, ⟨fun _ _ => Int.le_refl _, fun _ _ => rfl, fun _ => rfl⟩, fun a b hab => by omega, by simp⟩
  refine ⟨x5, x8, ob', ds', D', by rw [e, e1, e2], h1, h2, fun a b hab => h3 a b (by simpa using hab), by simpa using h4⟩
/-- one step of a phase -/
def ph (D : Nat → Nat → Int) (t a b : Nat) : Int := min (D a b) (D a t + D t b)
theorem ph_l {D : Nat → Nat → Int} (h : Dst D) (t b : Nat) : ph D t t b = D t b := by
  have := h.dia t
  unfold ph; omega
theorem ph_r {D : Nat → Nat → Int} (h : Dst D) (t a : Nat) : ph D t a t = D a t := by
  have := h.dia t
  unfold ph; omega
theorem ph_dst {D : Nat → Nat → Int} (h : Dst D) (t : Nat) : Dst (ph D t) := ⟨fun i j => by
  have := h.nn i j; have := h.nn i t; have := h.nn t j
  unfold ph; omega, fun i j => by
  have := h.sym i j; have := h.sym i t; have := h.sym t j
  unfold ph; omega, fun i => by
  have := h.dia i; have := h.nn i t; have := h.nn t i
  unfold ph; omega⟩
theorem ph_tri {D : Nat → Nat → Int} (h : Dst D) {t n : Nat} (ht : t < n) (H : ∀ a b k, a < n → b < n → k < t → D a b ≤ D a k + D k b) : ∀ a b k, a < n → b < n → k < t + 1 → ph D t a b ≤ ph D t a k + ph D t k b := by
  intro a b k ha hb hk
  rcases Nat.lt_succ_iff_lt_or_eq.mp hk with hk | hk
  · have h1 := H a b k ha hb hk
    have h2 := H a t k ha ht hk
    have h3 := H t b k ht hb hk
    have h4 := h.nn t k
    have h5 := h.nn k t
    unfold ph; omega
  · subst hk
    rw [ph_l h, ph_r h]; unfold ph; omega
/-- a row of a phase -/
theorem row_ok (x3 : Option Vd) (x8 : Option Vd) {t i : Nat} (hn8 : n ≤ 8) (ht : t < n) (hi : i < n) (ob : Ob) (ds : List (PyData × PyData)) (D : Nat → Nat → Int) (hD : Dst D) (hl : ds.length ≤ 100000 + 1000 * t + 10 * i)
    (hA : ∀ a b, a < n → b < n → getP ds (ky a b) = some (.int (if a < i then ph D t a b else D a b))) :
    ∃ x ds', forG ⟨(List.range n).map fun (j : Nat) => PyData.int (j : Int), none⟩ (gSet 8) dB_map_b3 ((List.range n).map fun (j : Nat) => PyData.int (j : Int))
      [some (.loc 0), some (.p most), some (.p (.int n)), x3, some (.loc 1), some (.p (.int i)), some (.p (.int t)), none, x8, none] [ob, .dct true ds] =
    .ok (.nx, [some (.loc 0), some (.p most), some (.p (.int n)), x3, some (.loc 1), some (.p (.int i)), some (.p (.int t)), none, x, none], [ob, .dct true ds']) ∧ (∀ a b, a < n → b < n → getP ds' (ky a b) = some (.int (if a < i + 1 then ph D t a b else D a b))) ∧ ds'.length ≤ 100000 + 1000 * t + 10 * (i + 1) := by
  obtain ⟨ρ', st', e, x, ds', e1, e2, h3, h4⟩ := forG_ix (src := (List.range n).map fun (j : Nat) => PyData.int (j : Int)) (gt := gSet 8) (body := dB_map_b3) (ds := (List.range n).map fun (j : Nat) => PyData.int (j : Int)) (st := [ob, .dct true ds])
    (ρ := [some (.loc 0), some (.p most), some (.p (.int n)), x3, some (.loc 1), some (.p (.int i)), some (.p (.int t)), none, x8, none])
    (fun j ρ s => ∃ x ds', ρ = [some (.loc 0), some (.p most), some (.p (.int n)), x3, some (.loc 1), some (.p (.int i)), some (.p (.int t)), none, x, none] ∧ s = [ob, .dct true ds'] ∧
      (∀ a b, a < n → b < n → getP ds' (ky a b) = some (.int (if a < i ∨ (a = i ∧ b < j) then ph D t a b else D a b))) ∧ ds'.length ≤ 100000 + 1000 * t + 10 * i + j)
    (fun j d ρ s hd hP => by
      obtain ⟨hj, rfl⟩ := range_get hd
      obtain ⟨x, ds', rfl, rfl, q3, q4⟩ := hP
      have g1 : getP ds' (ky i j) = some (.int (D i j)) := by rw [q3 i j hi hj, if_neg (by omega)]
      have g2 : getP ds' (ky i t) = some (.int (D i t)) := by
        rw [q3 i t hi ht]
        split
        · rw [ph_r hD]
        · rfl
      have g3 : getP ds' (ky t j) = some (.int (D t j)) := by
        rw [q3 t j ht hj]
        split
        · rw [ph_l hD]
        · rfl
      refine ⟨_, _, _, rfl, .inl ?_, some (.p (.int j)), putP ds' (ky i j) (.int (ph D t i j)), rfl, rfl, fun a b ha hb => ?_, Nat.le_trans putP_len (by omega)⟩
      · have p1 := put_tab ob ds' i j (.int (ph D t i j)) (by omega)
        have r1 := get_tab ob _ i j g1
        have r2 := get_tab ob _ i t g2
        have r3 := get_tab ob _ t j g3
        simp [dB_map_b3, r1, r2, r3]
        show (putS [ob, .dct true ds'] (.loc 1) (.tuple [.int (i : Int), .int (j : Int)]) (.int (ph D t i j)) >>= _) = _
        rw [p1]; rfl
      · rw [get_put]
        by_cases c : i = a ∧ j = b
        · rw [if_pos c, if_pos (by omega), c.1, c.2]
        · rw [if_neg c, q3 a b ha hb]
          by_cases c2 : a < i ∨ (a = i ∧ b < j)
          · rw [if_pos c2, if_pos (by omega)]
          · rw [if_neg c2, if_neg (by omega)])
    ⟨x8, ds, rfl, rfl, fun a b ha hb => by
      rw [hA a b ha hb]
      by_cases c : a < i
      · rw [if_pos c, if_pos (.inl c)]
      · rw [if_neg c, if_neg (by omega)], by omega⟩
  refine ⟨x, ds', by rw [e, e1, e2], fun a b ha hb => ?_, by simp only [List.length_map, List.length_range] at h4; omega⟩
  have h3 := h3 a b ha hb
  simp only [List.length_map, List.length_range] at h3
  rw [h3]
  by_cases c : a < i + 1
  · rw [if_pos c, if_pos (by omega)]
  · rw [if_neg c, if_neg (by omega)]
/-- a phase -/
theorem phase_ok (x3 : Option Vd) (x5 x8 : Option Vd) {t : Nat} (hn8 : n ≤ 8) (ht : t < n) (ob : Ob) (ds : List (PyData × PyData)) (D : Nat → Nat → Int) (hD : Dst D) (hl : ds.length ≤ 100000 + 1000 * t)
    (hA : At ds D fun a b => a < n ∧ b < n) :
    ∃ y5 y8 ds', forG ⟨(List.range n).map fun (j : Nat) => PyData.int (j : Int), none⟩ (gSet 5) dB_map_b4 ((List.range n).map fun (j : Nat) => PyData.int (j : Int))
      [some (.loc 0), some (.p most), some (.p (.int n)), x3, some (.loc 1), x5, some (.p (.int t)), none, x8, none] [ob, .dct true ds] =
    .ok (.nx, [some (.loc 0), some (.p most), some (.p (.int n)), x3, some (.loc 1), y5, some (.p (.int t)), none, y8, none], [ob, .dct true ds']) ∧ (At ds' (ph D t) fun a b => a < n ∧ b < n) ∧ ds'.length ≤ 100000 + 1000 * (t + 1) := by
  have h62 : In62 (n : Int) := in62 (by omega) (by omega)
  obtain ⟨ρ', st', e, x5, x8, ds', e1, e2, h3, h4⟩ := forG_ix (src := (List.range n).map fun (j : Nat) => PyData.int (j : Int)) (gt := gSet 5) (body := dB_map_b4) (ds := (List.range n).map fun (j : Nat) => PyData.int (j : Int)) (st := [ob, .dct true ds])
    (ρ := [some (.loc 0), some (.p most), some (.p (.int n)), x3, some (.loc 1), x5, some (.p (.int t)), none, x8, none])
    (fun i ρ s => ∃ x5 x8 ds', ρ = [some (.loc 0), some (.p most), some (.p (.int n)), x3, some (.loc 1), x5, some (.p (.int t)), none, x8, none] ∧ s = [ob, .dct true ds'] ∧
      (∀ a b, a < n → b < n → getP ds' (ky a b) = some (.int (if a < i then ph D t a b else D a b))) ∧ ds'.length ≤ 100000 + 1000 * t + 10 * i)
    (fun i d ρ s hd hP => by
      obtain ⟨hi, rfl⟩ := range_get hd
      obtain ⟨x5, x8, ds', rfl, rfl, q3, q4⟩ := hP
      obtain ⟨x, ds2, e, r1, r2⟩ := row_ok most n x3 x8 hn8 ht hi ob ds' D hD q4 q3
      exact ⟨_, _, _, rfl, .inl (by simp [dB_map_b4, h62, e]), some (.p (.int i)), x, ds2, rfl, rfl, r1, r2⟩)
    ⟨x5, x8, ds, rfl, rfl, fun a b ha hb => by rw [hA a b ⟨ha, hb⟩, if_neg (by omega)], by omega⟩
  refine ⟨x5, x8, ds', by rw [e, e1, e2], fun a b hab => ?_, by simp only [List.length_map, List.length_range] at h4; omega⟩
  have h3 := h3 a b hab.1 hab.2
  simp only [List.length_map, List.length_range] at h3
  rw [h3, if_pos hab.1]
/-- all phases -/
theorem phases_ok (x3 : Option Vd) (x5 x8 : Option Vd) (hn8 : n ≤ 8) (ob : Ob) (ds : List (PyData × PyData)) (D : Nat → Nat → Int) (hD : Dst D) (hl : ds.length ≤ 100000) (hA : At ds D fun a b => a < n ∧ b < n) :
    ∃ y5 y6 y8 ds' D', forG ⟨(List.range n).map fun (j : Nat) => PyData.int (j : Int), none⟩ (gSet 6) dB_map_b5 ((List.range n).map fun (j : Nat) => PyData.int (j : Int))
      [some (.loc 0), some (.p most), some (.p (.int n)), x3, some (.loc 1), x5, none, none, x8, none] [ob, .dct true ds] =
    .ok (.nx, [some (.loc 0), some (.p most), some (.p (.int n)), x3, some (.loc 1), y5, y6, none, y8, none], [ob, .dct true ds']) ∧ (At ds' D' fun a b => a < n ∧ b < n) ∧ Dst D' ∧ (∀ a b k, a < n → b < n → k < n → D' a b ≤ D' a k + D' k b) := by
  have h62 : In62 (n : Int) := in62 (by omega) (by omega)
  obtain ⟨ρ', st', e, x5, x6, x8, ds', D', e1, e2, h1, h2, h3, h4⟩ := forG_ix (src := (List.range n).map fun (j : Nat) => PyData.int (j : Int)) (gt := gSet 6) (body := dB_map_b5) (ds := (List.range n).map fun (j : Nat) => PyData.int (j : Int)) (st := [ob, .dct true ds])
    (ρ := [some (.loc 0), some (.p most), some (.p (.int n)), x3, some (.loc 1), x5, none, none, x8, none])
    (fun t ρ s => ∃ x5 x6 x8 ds' D', ρ = [some (.loc 0), some (.p most), some (.p (.int n)), x3, some (.loc 1), x5, x6, none, x8, none] ∧ s = [ob, .dct true ds'] ∧ (At ds' D' fun a b => a < n ∧ b < n) ∧ Dst D' ∧
      (∀ a b k, a < n → b < n → k < t → D' a b ≤ D' a k + D' k b) ∧ ds'.length ≤ 100000 + 1000 * t)
    (fun t d ρ s hd hP => by
      obtain ⟨ht, rfl⟩ := range_get hd
      obtain ⟨x5, x6, x8, ds', D', rfl, rfl, q1, q2, q3, q4⟩ := hP
      obtain ⟨y5, y8, ds2, e, r1, r2⟩ := phase_ok most n x3 x5 x8 hn8 ht ob ds' D' q2 q4 q1
      exact ⟨_, _, _, rfl, .inl (by simp [dB_map_b5, h62, e]), y5, some (.p (.int t)), y8, ds2, ph D' t, rfl, rfl, r1, ph_dst q2 t, ph_tri q2 ht q3, r2⟩)
    ⟨x5, none, x8, ds, D, rfl, rfl, hA, hD, fun a b k ha hb hk => by omega, by omega⟩
  refine ⟨x5, x6, x8, ds', D', by rw [e, e1, e2], h1, h2, fun a b k ha hb hk => h3 a b k ha hb (by simpa using hk)⟩
end
theorem mapB_ok {m : Int} (hm0 : 0 < m) (hm8 : m ≤ 8) (ob : Ob) (hd : DrB ob) : ∃ n D ob', dB_map [.loc 0, .p (.int m)] [ob] = .ok (.p (plan n D), [ob']) ∧ MapOk n D ∧ (n : Int) ≤ m ∧ DrB ob' := by
  obtain ⟨v, ob1, e1, d1, v0, v8⟩ := drawB1 hd [] (size := m) hm0 (by omega)
  obtain ⟨kd, ob2, e2, d2, k0, k3⟩ := drawB1 d1 [] (size := 3) (by decide) (by decide)
  obtain ⟨n, hn⟩ : ∃ n : Nat, 1 + v = (n : Int) := ⟨(1 + v).toNat, by omega⟩
  have hn0 : 0 < n := by omega
  have hn8 : n ≤ 8 := by omega
  have h62 : In62 (n : Int) := in62 (by omega) (by omega)
  have hnl : n ≤ 16777216 := by omega
  by_cases hk : kd < 2
  · -- by streets
    obtain ⟨l, st', el, hl, hv, ob3, rfl, d3⟩ := lcG_inv (src := (List.range n).map fun (j : Nat) => PyData.int (j : Int)) (gt := gSet 9) (fe := dB_map_c1) (ρ := [some (.loc 0), some (.p (.int m)), some (.p (.int n)), some (.p (.int kd)), none, none, none, none, none, none])
      (fun st => ∃ ob, st = [ob] ∧ DrB ob) (fun d => ∃ a : Int × Int, d = .tuple [.int a.1, .int a.2]) (ds := (List.range n).map fun (j : Nat) => PyData.int (j : Int)) (st := [ob2]) (fun d hd st hP => by
        obtain ⟨i, hi, rfl⟩ := mem_range hd
        obtain ⟨ob, rfl, hd⟩ := hP
        obtain ⟨x, oba, ea, da, _, _⟩ := drawB1 hd [] (size := 30) (by decide) (by decide)
        obtain ⟨y, obb, eb, db, y0, y1⟩ := drawB1 da [] (size := 20) (by decide) (by decide)
        have hm : PySem.IntMulOk y kd := mul_okL (by omega)
        exact ⟨_, _, _, rfl, by simp [dB_map_c1, ea, eb, hm], ⟨(x, y * kd), rfl⟩, obb, rfl, db⟩) ⟨ob2, rfl, d2⟩
    have hl : l.length = n := by simpa using hl
    obtain ⟨f, hf⟩ := list_fn (fun a : Int × Int => PyData.tuple [.int a.1, .int a.2]) hv
    rw [hl] at hf
    refine ⟨n, _, ob3, ?_, street hn0 hn8 (fun i => (f i).1) (fun i => (f i).2), by omega, d3⟩
    have a0 : ∀ x y : PyData, atI [x, y] 0 = some x := fun x y => rfl
    have a1 : ∀ x y : PyData, atI [x, y] 1 = some y := fun x y => rfl
    have inner : ∀ (i : Nat) (ρ8 : Option Vd), lcG ⟨l, none⟩ (gSet 8) fYes dB_map_c2 [some (.loc 0), some (.p (.int m)), some (.p (.int n)), some (.p (.int kd)), none, some (.p (.tuple [.int (f i).1, .int (f i).2])), none, some (.p (.list l)), none, none] l [ob3] =
        .ok ((List.range n).map fun j => .int ((((f i).1 - (f j).1).natAbs : Int) + (((f i).2 - (f j).2).natAbs : Int)), [ob3]) := fun i ρ8 => by
      conv => lhs; arg 6; rw [hf]
      exact lcG_mapA (fun j => PyData.tuple [.int (f j).1, .int (f j).2]) _ fun j hj => ⟨_, rfl, by simp [dB_map_c2, a0, a1]⟩
    have outer : lcG ⟨l, none⟩ (gSet 5) fYes dB_map_c3 [some (.loc 0), some (.p (.int m)), some (.p (.int n)), some (.p (.int kd)), none, none, none, some (.p (.list l)), none, none] l [ob3] =
        .ok ((List.range n).map fun i => .tuple ((List.range n).map fun j => .int ((((f i).1 - (f j).1).natAbs : Int) + (((f i).2 - (f j).2).natAbs : Int))), [ob3]) := by
      conv => lhs; arg 6; rw [hf]
      exact lcG_mapA (fun j => PyData.tuple [.int (f j).1, .int (f j).2]) _ fun i hi => ⟨_, rfl, by simp [dB_map_c3, inner i none, hnl]⟩
    simp [dB_map, e1, e2, hn, hk, h62, el, hl, hnl, outer, plan]
  · obtain ⟨x5, x8, ob3, ds, D, ef, d3, hD, hA, hl⟩ := fill2 (.int m) n hn8 ob2 d2 (some (.p (.int kd)))
    obtain ⟨y5, y6, y8, ds', D', ep, hA', hD', hT⟩ := phases_ok (.int m) n (some (.p (.int kd))) x5 x8 hn8 ob3 ds D hD (by omega) hA
    refine ⟨n, D', ob3, ?_, ⟨hn0, hn8, fun i _ => hD'.dia i, fun i j _ _ => hD'.nn i j, fun i j _ _ => hD'.sym i j, hT⟩, by omega, d3⟩
    have inner : ∀ (i : Nat), i < n → lcG ⟨(List.range n).map fun (j : Nat) => PyData.int (j : Int), none⟩ (gSet 8) fYes dB_map_c4 [some (.loc 0), some (.p (.int m)), some (.p (.int n)), some (.p (.int kd)), some (.loc 1), some (.p (.int i)), y6, none, none, none] ((List.range n).map fun (j : Nat) => PyData.int (j : Int)) [ob3, .dct true ds'] =
        .ok ((List.range n).map fun j => .int (D' i j), [ob3, .dct true ds']) := fun i hi => by
      refine lcG_mapA (fun (j : Nat) => PyData.int (j : Int)) _ fun j hj => ⟨_, rfl, ?_⟩
      have := get_tab ob3 ds' i j (hA' i j ⟨hi, List.mem_range.mp hj⟩)
      simp [dB_map_c4, this]
    have outer : lcG ⟨(List.range n).map fun (j : Nat) => PyData.int (j : Int), none⟩ (gSet 5) fYes dB_map_c5 [some (.loc 0), some (.p (.int m)), some (.p (.int n)), some (.p (.int kd)), some (.loc 1), none, y6, none, y8, none] ((List.range n).map fun (j : Nat) => PyData.int (j : Int)) [ob3, .dct true ds'] =
        .ok ((List.range n).map fun i => .tuple ((List.range n).map fun j => .int (D' i j)), [ob3, .dct true ds']) :=
      lcG_mapA (fun (j : Nat) => PyData.int (j : Int)) _ fun i hi => ⟨_, rfl, by simp [dB_map_c5, h62, inner i (List.mem_range.mp hi), hnl]⟩
    simp [dB_map, e1, e2, hn, hk, h62, ef, ep, outer, hnl, plan]
end VL

/-! data with a Lean type: equality, order, least and greatest -/
namespace VL
open PySem PySem.Spec PyProof.Rows L2
open PySem.W (Datum DatumOrd minOf maxOf Tup)
class TD (α : Type) [DecidableEq α] [DatumOrd α] : Prop where
  lay : ∀ a : α, (Datum.toD a).canLay0 = true
abbrev td {α : Type} [DecidableEq α] [DatumOrd α] (a : α) : PyData := Datum.toD a
instance : TD Int := ⟨fun a => by show (PyData.int a).canLay0 = true; simp [PyData.canLay0]⟩
instance : TD Bool := ⟨fun a => by show (PyData.bool a).canLay0 = true; simp [PyData.canLay0]⟩
section
variable {α β : Type} [DecidableEq α] [DatumOrd α] [TD α] [DecidableEq β] [DatumOrd β] [TD β]
theorem layAll : ∀ l : List α, PyData.canLayAll0 (l.map td) = true
  | [] => by simp [PyData.canLayAll0]
  | a :: l => by rw [List.map_cons, PyData.canLayAll0, TD.lay a, layAll l]; rfl
instance : TD (List α) := ⟨fun a => by show (PyData.list (a.map td)).canLay0 = true; rw [PyData.canLay0]; exact layAll a⟩
instance : TD (Tup α) := ⟨fun a => by show (PyData.tuple (a.items.map td)).canLay0 = true; rw [PyData.canLay0]; exact layAll a.items⟩
instance : TD (α × β) := ⟨fun a => by show (PyData.tuple [td a.1, td a.2]).canLay0 = true; rw [PyData.canLay0]; simp [PyData.canLayAll0, td, TD.lay]⟩
theorem shaped_td (a : α) (h : Datum.depth α ≤ 64 := by decide) : SeqAt.shaped (td a) = true := by
  unfold SeqAt.shaped
  rw [TD.lay a, decide_eq_true (Nat.le_trans (Datum.depth_le a) h)]; rfl
theorem mm_td (l : List α) (h : Datum.depth α ≤ 64 := by decide) : MmOk (l.map td) := by
  unfold MmOk
  simp only [Bool.and_eq_true, List.all_eq_true, List.mem_map, Bool.not_eq_true']
  refine ⟨⟨?_, ?_⟩, ?_⟩
  · rintro x ⟨a, _, rfl⟩; exact shaped_td a h
  · rintro x ⟨a, _, rfl⟩ y ⟨b, _, rfl⟩; exact DatumOrd.alike a b
  · rintro x ⟨a, _, rfl⟩
    have := DatumOrd.notNone a
    cases e : td a <;> first | rfl | exact absurd e this
theorem minP_td (x : α) (xs : List α) (h : Datum.depth α ≤ 64 := by decide) : minP [.list (td x :: xs.map td)] = .ok (td (minOf x xs)) := by
  have hm := mm_td (x :: xs) h
  rw [List.map_cons] at hm
  simp only [minP, mmP, itemsOf]
  rw [if_pos hm, PySem.W.minD_map]
theorem maxP_td (x : α) (xs : List α) (h : Datum.depth α ≤ 64 := by decide) : maxP [.list (td x :: xs.map td)] = .ok (td (maxOf x xs)) := by
  have hm := mm_td (x :: xs) h
  rw [List.map_cons] at hm
  simp only [maxP, mmP, itemsOf]
  rw [if_pos hm, PySem.W.maxD_map]
theorem lt_irr (a : α) : DatumOrd.lt a a = false := by rw [← DatumOrd.lt_eq]; exact PySem.W.dataLt_self _
theorem lt_tr {a b c : α} (h : DatumOrd.lt a b = true) (h2 : DatumOrd.lt b c = true) : DatumOrd.lt a c = true := by
  rw [← DatumOrd.lt_eq] at *
  exact lex_trans _ _ _ h h2
theorem lt_tot {a b : α} (h : DatumOrd.lt a b = false) (h2 : DatumOrd.lt b a = false) : a = b := by
  rw [← DatumOrd.lt_eq] at *
  have e := lex_total _ _ h h2
  apply Classical.byContradiction
  intro ne
  have h3 := (PySem.W.toks_eqv (td a) (td b) (DatumOrd.alike a b)).2 (by show PyData.eqv (Datum.toD a) (Datum.toD b) = false; rw [Datum.eqv]; simp [ne]) [] [Sum.inl 0]
  have e : PySem.W.keyToks (td a) = PySem.W.keyToks (td b) := e
  rw [e, PySem.W.lex_pre, lex_irrefl] at h3
  cases h3
/-- a ≤ b -/
def tle (a b : α) : Prop := DatumOrd.lt b a = false
theorem tle_rfl (a : α) : tle a a := lt_irr a
theorem tle_of_lt {a b : α} (h : DatumOrd.lt a b = true) : tle a b := by
  unfold tle
  cases e : DatumOrd.lt b a with
  | false => rfl
  | true => rw [← lt_irr a, lt_tr h e]
theorem tle_tr {a b c : α} (h : tle a b) (h2 : tle b c) : tle a c := by
  unfold tle at *
  cases e : DatumOrd.lt c a with
  | false => rfl
  | true =>
    cases e2 : DatumOrd.lt a b with
    | true => rw [lt_tr e e2] at h2; cases h2
    | false =>
      have := lt_tot e2 h
      subst this
      rw [e] at h2; cases h2
theorem tle_anti {a b : α} (h : tle a b) (h2 : tle b a) : a = b := lt_tot h2 h
theorem tle_total (a b : α) : tle a b ∨ tle b a := by
  cases e : DatumOrd.lt a b with
  | true => exact .inl (tle_of_lt e)
  | false => exact .inr e
theorem minOf_spec : ∀ (xs : List α) (x : α), minOf x xs ∈ x :: xs ∧ ∀ y ∈ x :: xs, tle (minOf x xs) y
  | [], x => ⟨List.mem_cons_self, fun y hy => by simp at hy; rw [hy]; exact tle_rfl _⟩
  | z :: xs, x => by
    have e : minOf x (z :: xs) = minOf (if DatumOrd.lt z x = true then z else x) xs := rfl
    obtain ⟨h1, h2⟩ := minOf_spec xs (if DatumOrd.lt z x = true then z else x)
    rw [e]
    by_cases c : DatumOrd.lt z x = true
    · rw [if_pos c] at h1 h2 ⊢
      refine ⟨List.mem_cons_of_mem _ h1, fun y hy => ?_⟩
      rcases List.mem_cons.mp hy with rfl | hy
      · exact tle_tr (h2 z List.mem_cons_self) (tle_of_lt c)
      · exact h2 y hy
    · rw [if_neg c] at h1 h2 ⊢
      refine ⟨?_, fun y hy => ?_⟩
      · rcases List.mem_cons.mp h1 with h | h
        · rw [h]; exact List.mem_cons_self
        · exact List.mem_cons_of_mem _ (List.mem_cons_of_mem _ h)
      · rcases List.mem_cons.mp hy with rfl | hy
        · exact h2 _ List.mem_cons_self
        · rcases List.mem_cons.mp hy with rfl | hy
          · exact tle_tr (h2 x List.mem_cons_self) (by unfold tle; simpa using c)
          · exact h2 y (List.mem_cons_of_mem _ hy)
/-- the least of a list -/
def leastOf (l : List α) (m : α) : Prop := m ∈ l ∧ ∀ y ∈ l, tle m y
theorem leastOf_uniq {l l' : List α} {m m' : α} (h : leastOf l m) (h' : leastOf l' m') (e : ∀ x, x ∈ l ↔ x ∈ l') : m = m' :=
  tle_anti (h.2 m' ((e m').mpr h'.1)) (h'.2 m ((e m).mp h.1))
theorem minP_least {l : List α} {m : α} (h : leastOf l m) (hd : Datum.depth α ≤ 64 := by decide) : minP [.list (l.map td)] = .ok (td m) := by
  cases l with
  | nil => cases h.1
  | cons x xs =>
    rw [List.map_cons, minP_td x xs hd, leastOf_uniq ⟨(minOf_spec xs x).1, (minOf_spec xs x).2⟩ h fun _ => Iff.rfl]
theorem least_ex {l : List α} (h : l ≠ []) : ∃ m, leastOf l m := by
  cases l with
  | nil => exact absurd rfl h
  | cons x xs => exact ⟨_, minOf_spec xs x⟩
theorem eqP_td (n : Bool) (a b : α) (h : Datum.depth α ≤ 64 := by decide) : eqP n (td a) (td b) = .ok (.bool (decide (a = b) != n)) := by
  unfold eqP
  rw [if_pos ⟨shaped_td a h, shaped_td b h⟩]
  show R.ok (PyData.bool (PyData.eqv (Datum.toD a) (Datum.toD b) != n)) = _
  rw [Datum.eqv]
theorem tle_pair {a b : α} {c d : β} : tle (a, c) (b, d) ↔ DatumOrd.lt a b = true ∨ (a = b ∧ tle c d) := by
  show (if b = a then DatumOrd.lt d c else DatumOrd.lt b a) = false ↔ _
  by_cases e : a = b
  · subst e; rw [if_pos rfl]
    constructor
    · exact fun h => .inr ⟨rfl, h⟩
    · rintro (h | h)
      · rw [lt_irr] at h; cases h
      · exact h.2
  · rw [if_neg fun z => e z.symm]
    constructor
    · intro h
      refine .inl ?_
      cases e2 : DatumOrd.lt a b with
      | true => rfl
      | false => exact absurd (lt_tot e2 h) e
    · rintro (h | h)
      · exact tle_of_lt h
      · exact absurd h.1 e
end
theorem tle_int {a b : Int} : tle a b ↔ a ≤ b := by
  show decide (b < a) = false ↔ _
  rw [decide_eq_false_iff_not]; omega
theorem lt_int {a b : Int} : DatumOrd.lt a b = true ↔ a < b := by
  show decide (a < b) = true ↔ _
  rw [decide_eq_true_iff]
end VL

/-! stores, and what the later rules' meanings compute -/
namespace VL
open PySem PySem.Spec PyProof.Rows L2
section
variable (ρ : Slots) (st : Store) (f h : FE) (fi : FI) (gt : FG) (tt : FT) (fe : FE) (r : FR)
@[simp] theorem vGb_ap (sb : Bool) (vs : List Nat) : vGb sb fi gt tt fe vs ρ st = (fi ρ st >>= fun a => (gbG sb a.1 gt tt fe (wipeV ρ vs) a.1.ds a.2).only fun b => .ok (.p (.bool b.1), b.2)) := rfl
@[simp] theorem nRange_ap : nRange r ρ st = (r ρ st >>= fun a => if RgOk a.1.1 a.1.2 then .ok (.lst (rangeD a.1.1 a.1.2), a.2) else .bad) := rfl
@[simp] theorem vTupRg_ap : vTupRg r ρ st = (r ρ st >>= fun a => if RgOk a.1.1 a.1.2 then .ok (.p (.tuple (rangeD a.1.1 a.1.2)), a.2) else .bad) := rfl
@[simp] theorem rg1_ap : rg1 f ρ st = (f ρ st >>= fun a => match a.1 with | .p (.int n) => .ok (((0 : Int), n), a.2) | _ => .bad) := rfl
@[simp] theorem rg2_ap : rg2 f h ρ st = (f ρ st >>= fun a => h ρ a.2 >>= fun b => match a.1, b.1 with | .p (.int m), .p (.int n) => .ok ((m, n), b.2) | _, _ => .bad) := rfl
@[simp] theorem nSorted_ap : nSorted f ρ st = (f ρ st >>= fun a => peek a.2 a.1 >>= fun d => match itemsOf d with | some ds => if SortOk ds then .ok (.lst (sortD ds), a.2) else .bad | none => .bad) := rfl
@[simp] theorem revP_lst (l : List PyData) : revP (.list l) = .ok (.list l.reverse) := rfl
@[simp] theorem revP_tup (l : List PyData) : revP (.tuple l) = .ok (.tuple l.reverse) := rfl
end
theorem rgOk {a b : Int} (h : 0 ≤ a) (h1 : a ≤ 1000000) (h2 : 0 ≤ b) (h3 : b ≤ 1000000) : RgOk a b := by unfold RgOk; omega
theorem get_mid (X : Store) (ob : Ob) (J : Store) : (X ++ ob :: J)[X.length]? = some ob := by
  rw [List.getElem?_append_right (Nat.le_refl _), Nat.sub_self]; rfl
theorem set_mid (X : Store) (ob ob' : Ob) (J : Store) : (X ++ ob :: J).set X.length ob' = X ++ ob' :: J := by
  rw [List.set_append_right _ _ (Nat.le_refl _), Nat.sub_self]; rfl
theorem take_mid (X : Store) (J : Store) : (X ++ J).take X.length = X := by simp
theorem isLst_at {st : Store} {k : Nat} {l : List PyData} (h : st[k]? = some (.lst l)) : isLstV st (.loc k) = true := by
  unfold isLstV; rw [peek_lst h]
theorem mAppend_at {st : Store} {k : Nat} {l : List PyData} {d : PyData} (h : st[k]? = some (.lst l)) (hl : l.length < LIM) : mAppend st (.loc k) [.p d] = .ok (.p .none, st.set k (.lst (l ++ [d]))) := by
  show (frz st (.p d) >>= fun a => _) = _
  simp [h]
  exact hl
theorem rangeD_nn {a b : Nat} : rangeD (a : Int) (b : Int) = (List.range (b - a)).map fun (i : Nat) => PyData.int ((a + i : Nat) : Int) := by
  unfold rangeD
  rw [show ((b : Int) - (a : Int)).toNat = b - a by omega]
  refine List.map_congr_left fun i _ => ?_
  congr 1
theorem ixget {α : Type} {f : Nat → α} {n i : Nat} {d : α} (h : ((List.range n).map f)[i]? = some d) : i < n ∧ d = f i := by
  rw [List.getElem?_map] at h
  cases e : (List.range n)[i]? with
  | none => rw [e] at h; cases h
  | some j =>
    rw [e] at h
    obtain ⟨h1, h2⟩ := List.getElem?_eq_some_iff.mp e
    rw [List.getElem_range] at h2
    cases h
    exact ⟨by simpa using h1, by rw [h2]⟩
theorem gbG_nil (sb : Bool) (ds : List PyData) (gt : FG) (tt : FT) (fe : FE) (ρ : Slots) (st : Store) : gbG sb ⟨ds, none⟩ gt tt fe ρ [] st = .ok (!sb, st) := by
  unfold gbG; exact if_pos trivial
theorem gbG_cons (sb : Bool) (ds : List PyData) (gt : FG) (tt : FT) (fe : FE) (ρ : Slots) (d : PyData) (r : List PyData) (st : Store) : gbG sb ⟨ds, none⟩ gt tt fe ρ (d :: r) st =
    (gt (.p d) ρ st >>= fun ρ1 => tt ρ1 st >>= fun c => if c.1 = true then fe ρ1 c.2 >>= fun a => match a.1 with
      | .p (.bool b) => if b = sb then .ok (sb, a.2) else gbG sb ⟨ds, none⟩ gt tt fe ρ r a.2
      | _ => .bad
    else gbG sb ⟨ds, none⟩ gt tt fe ρ r c.2) := by
  rw [gbG]; exact if_pos trivial
/-- all(..): up to the first that is false -/
theorem gbG_all {α : Type} {src : List PyData} {gt : FG} {fe : FE} {ρ : Slots} {st : Store} (c : α → PyData) (b : α → Bool) : ∀ {ds : List α}, (∀ p a q, ds = p ++ a :: q → (∀ x ∈ p, b x = true) → ∃ ρ1, gt (.p (c a)) ρ st = .ok ρ1 ∧ fe ρ1 st = .ok (.p (.bool (b a)), st)) →
    gbG false ⟨src, none⟩ gt fYes fe ρ (ds.map c) st = .ok (ds.all b, st)
  | [], _ => by rw [List.map_nil, gbG_nil]; rfl
  | d :: r, h => by
    obtain ⟨ρ1, h1, h2⟩ := h [] d r rfl (by simp)
    rw [List.map_cons, gbG_cons, h1]
    cases e : b d with
    | false => simp [h2, e]
    | true =>
      have ih := gbG_all (src := src) c b (ds := r) fun p a q hr hp => h (d :: p) a q (by rw [hr]; rfl) (fun x hx => by
        rcases List.mem_cons.mp hx with rfl | hx
        · exact e
        · exact hp x hx)
      simp [h2, e, ih]
theorem gbG_any {α : Type} {src : List PyData} {gt : FG} {fe : FE} {ρ : Slots} {st : Store} (c : α → PyData) (b : α → Bool) : ∀ {ds : List α}, (∀ p a q, ds = p ++ a :: q → (∀ x ∈ p, b x = false) → ∃ ρ1, gt (.p (c a)) ρ st = .ok ρ1 ∧ fe ρ1 st = .ok (.p (.bool (b a)), st)) →
    gbG true ⟨src, none⟩ gt fYes fe ρ (ds.map c) st = .ok (ds.any b, st)
  | [], _ => by rw [List.map_nil, gbG_nil]; rfl
  | d :: r, h => by
    obtain ⟨ρ1, h1, h2⟩ := h [] d r rfl (by simp)
    rw [List.map_cons, gbG_cons, h1]
    cases e : b d with
    | true => simp [h2, e]
    | false =>
      have ih := gbG_any (src := src) c b (ds := r) fun p a q hr hp => h (d :: p) a q (by rw [hr]; rfl) (fun x hx => by
        rcases List.mem_cons.mp hx with rfl | hx
        · exact e
        · exact hp x hx)
      simp [h2, e, ih]
theorem inD_lst {α : Type} [DecidableEq α] [PySem.W.DatumOrd α] [TD α] (n : Bool) (st : Store) (a : α) (l : List α) (h : PySem.W.Datum.depth α ≤ 63 := by decide) : inD n st (.p (td a)) (.p (.list (l.map td))) = .ok (.bool (decide (a ∈ l) != n)) := by
  have h1 : SeqAt.shaped (td a) = true := shaped_td a (Nat.le_trans h (by decide))
  have h2 : SeqAt.shaped (td l) = true := shaped_td l (Nat.succ_le_succ h)
  have hok : InOk (td a) (.list (l.map td)) := by
    unfold InOk
    rw [h1, show SeqAt.shaped (.list (l.map td)) = true from h2]; rfl
  have hb : inB (td a) (.list (l.map td)) = decide (a ∈ l) := by
    unfold inB itemsOf
    simp only [Option.getD_some, List.any_map]
    rw [Bool.eq_iff_iff, List.any_eq_true, decide_eq_true_iff]
    constructor
    · rintro ⟨x, hx, he⟩
      have he : PyData.eqv (PySem.W.Datum.toD x) (PySem.W.Datum.toD a) = true := he
      rw [PySem.W.Datum.eqv, decide_eq_true_iff] at he
      rw [← he]; exact hx
    · intro hx
      refine ⟨a, hx, ?_⟩
      show PyData.eqv (PySem.W.Datum.toD a) (PySem.W.Datum.toD a) = true
      rw [PySem.W.Datum.eqv]; simp
  unfold inD
  simp only [dctOf, peek_p, R.ok_bind]
  cases n with
  | false =>
    simp only [Bool.false_eq_true, if_false]
    unfold inP
    rw [if_pos hok, hb, Bool.bne_false]
  | true =>
    rw [if_pos rfl]
    unfold notInP
    rw [if_pos hok, hb, Bool.bne_true]
@[simp] theorem negP_int (i : Int) : negP (.int i) = .ok (.int (-i)) := rfl
theorem atI_last {α : Type} {l : List α} {d : α} (h : l.getLast? = some d) : atI l (-1) = some d := by
  have hl : 0 < l.length := by
    cases l with
    | nil => cases h
    | cons x l => simp
  unfold atI ixN
  rw [if_neg (by omega), if_pos (by omega)]
  rw [List.getLast?_eq_getElem?] at h
  show l[_]? = some d
  rw [← h]
  congr 1
  omega
end VL

/-! kinds of values; numbers between bounds; steps -/
namespace VL
open PySem PySem.Spec PyProof.Rows L2
@[simp] theorem isiP_NoneType  (T : String) : isiP T .none = .ok (.bool (tyLe "NoneType" T)) := rfl
@[simp] theorem isiP_bool (b : Bool) (T : String) : isiP T (.bool b) = .ok (.bool (tyLe "bool" T)) := rfl
@[simp] theorem isiP_str (b : Str) (T : String) : isiP T (.str b) = .ok (.bool (tyLe "str" T)) := rfl
@[simp] theorem isiP_tuple (b : List PyData) (T : String) : isiP T (.tuple b) = .ok (.bool (tyLe "tuple" T)) := rfl
@[simp] theorem isiP_list (b : List PyData) (T : String) : isiP T (.list b) = .ok (.bool (tyLe "list" T)) := rfl
@[simp] theorem ty_NoneType_bool : tyLe "NoneType" "bool" = false := by decide
@[simp] theorem ty_NoneType_int : tyLe "NoneType" "int" = false := by decide
@[simp] theorem ty_NoneType_str : tyLe "NoneType" "str" = false := by decide
@[simp] theorem ty_NoneType_tuple : tyLe "NoneType" "tuple" = false := by decide
@[simp] theorem ty_NoneType_list : tyLe "NoneType" "list" = false := by decide
@[simp] theorem ty_bool_bool : tyLe "bool" "bool" = true := by decide
@[simp] theorem ty_bool_int : tyLe "bool" "int" = true := by decide
@[simp] theorem ty_bool_str : tyLe "bool" "str" = false := by decide
@[simp] theorem ty_bool_tuple : tyLe "bool" "tuple" = false := by decide
@[simp] theorem ty_bool_list : tyLe "bool" "list" = false := by decide
@[simp] theorem ty_int_bool : tyLe "int" "bool" = false := by decide
@[simp] theorem ty_int_int : tyLe "int" "int" = true := by decide
@[simp] theorem ty_int_str : tyLe "int" "str" = false := by decide
@[simp] theorem ty_int_tuple : tyLe "int" "tuple" = false := by decide
@[simp] theorem ty_int_list : tyLe "int" "list" = false := by decide
@[simp] theorem ty_str_bool : tyLe "str" "bool" = false := by decide
@[simp] theorem ty_str_int : tyLe "str" "int" = false := by decide
@[simp] theorem ty_str_str : tyLe "str" "str" = true := by decide
@[simp] theorem ty_str_tuple : tyLe "str" "tuple" = false := by decide
@[simp] theorem ty_str_list : tyLe "str" "list" = false := by decide
@[simp] theorem ty_tuple_bool : tyLe "tuple" "bool" = false := by decide
@[simp] theorem ty_tuple_int : tyLe "tuple" "int" = false := by decide
@[simp] theorem ty_tuple_str : tyLe "tuple" "str" = false := by decide
@[simp] theorem ty_tuple_tuple : tyLe "tuple" "tuple" = true := by decide
@[simp] theorem ty_tuple_list : tyLe "tuple" "list" = false := by decide
@[simp] theorem ty_list_bool : tyLe "list" "bool" = false := by decide
@[simp] theorem ty_list_int : tyLe "list" "int" = false := by decide
@[simp] theorem ty_list_str : tyLe "list" "str" = false := by decide
@[simp] theorem ty_list_tuple : tyLe "list" "tuple" = false := by decide
@[simp] theorem ty_list_list : tyLe "list" "list" = true := by decide
@[simp] theorem vInK_ap (c : PyData) (f : FE) (ρ : Slots) (st : Store) : vInK c f ρ st = (f ρ st >>= fun a => peek a.2 a.1 >>= fun d => inP d c >>= fun r => .ok (.p r, a.2)) := rfl
noncomputable def dI_num : FM := entry 3 3 leaveF (sRet (vAndV (vUn (isiP "int") (vVar 0)) (vAndV (vNotV (vUn (isiP "bool") (vVar 0))) (vChain leP leP (vVar 1) (vVar 0) (vVar 2)))))
theorem num_int (i a b : Int) (st : Store) : dI_num [.p (.int i), .p (.int a), .p (.int b)] st = .ok (.p (.bool (decide (a ≤ i ∧ i ≤ b))), st) := by
  by_cases c : a ≤ i
  · simp [dI_num, vChain, c]
  · simp [dI_num, vChain, c]
/-- a thing that is no number -/
def noNum : PyData → Bool
  | .int _ => false
  | .dict _ => false
  | _ => true
theorem num_no {d : PyData} (h : noNum d = true) (x y : Vd) (st : Store) : dI_num [.p d, x, y] st = .ok (.p (.bool false), st) := by
  cases d with
  | int _ => cases h
  | dict _ => cases h
  | bool b => simp [dI_num]
  | none => simp [dI_num]
  | str b => simp [dI_num]
  | tuple b => simp [dI_num]
  | list b => simp [dI_num]
theorem sIf_t {c : FT} {a b : FS} {ρ : Slots} {st st' : Store} (h : c ρ st = .ok (true, st')) : sIf c a b ρ st = a ρ st' := by rw [sIf_ap, h]; rfl
theorem sIf_f {c : FT} {a b : FS} {ρ : Slots} {st st' : Store} (h : c ρ st = .ok (false, st')) : sIf c a b ρ st = b ρ st' := by rw [sIf_ap, h]; rfl
theorem entry_rt {N n : Nat} {lv : Nat → Vd → Store → R (Vd × Store)} {f : FS} {ds : List Vd} {st st' : Store} {ρ : Slots} {d : Vd} (hl : ds.length = n) (h : f (ds.map some ++ List.replicate (N - n) none) st = .ok (.rt d, ρ, st')) : entry N n lv f ds st = lv st.length d st' := by
  rw [entry_ap N n lv f ds st hl, h]; rfl
theorem sSeq_rt {sf sh : FS} {ρ ρ' : Slots} {st st' : Store} {d : Vd} (h : sf ρ st = .ok (.rt d, ρ', st')) : sSeq sf sh ρ st = .ok (.rt d, ρ', st') := by rw [sSeq_ap, h]; rfl
/-! ### sorted -/
theorem dle_tr (a b c : PyData) (h : PySem.W.dataLe false id a b = true) (h2 : PySem.W.dataLe false id b c = true) : PySem.W.dataLe false id a c = true := by
  have e : ∀ x y : PyData, PySem.W.dataLe false id x y = !PySem.W.dataLt y x := fun _ _ => rfl
  rw [e] at *
  simp only [Bool.not_eq_true'] at *
  cases h3 : PySem.W.dataLt c a with
  | false => rfl
  | true =>
    exfalso
    cases h4 : PySem.W.dataLt a b with
    | true =>
      have : PySem.W.dataLt c b = true := lex_trans _ _ _ h3 h4
      rw [this] at h2; cases h2
    | false =>
      have e2 : PySem.W.keyToks a = PySem.W.keyToks b := lex_total _ _ h4 h
      unfold PySem.W.dataLt at h2 h3
      rw [e2] at h3; rw [h3] at h2; cases h2
theorem dle_total (a b : PyData) : (PySem.W.dataLe false id a b || PySem.W.dataLe false id b a) = true := by
  have e : ∀ x y : PyData, PySem.W.dataLe false id x y = !PySem.W.dataLt y x := fun _ _ => rfl
  rw [e, e]
  cases h1 : PySem.W.dataLt b a with
  | false => rfl
  | true =>
    cases h2 : PySem.W.dataLt a b with
    | false => rfl
    | true =>
      have : PySem.W.dataLt a a = true := lex_trans _ _ _ h2 h1
      rw [PySem.W.dataLt_self] at this; cases this
theorem sortD_pw (l : List PyData) : (sortD l).Pairwise (fun a b => PySem.W.dataLt b a = false) := by
  have := List.pairwise_mergeSort (le := PySem.W.dataLe false id) dle_tr dle_total l
  refine this.imp fun {a b} h => ?_
  have h : (!PySem.W.dataLt b a) = true := h
  simpa using h
theorem sortD_perm (l : List PyData) : (sortD l).Perm l := List.mergeSort_perm l _
theorem sortD_id {l : List PyData} (h : l.Pairwise (fun a b => PySem.W.dataLt b a = false)) : sortD l = l := by
  refine List.mergeSort_of_pairwise (le := PySem.W.dataLe false id) (h.imp fun {a b} hab => ?_)
  show (!PySem.W.dataLt b a) = true
  rw [hab]; rfl
theorem Shp.str (n : Nat) (x : Str) (h : PyData.strOk x = true) : Shp n (.str x) := ⟨by simp [PyData.canLay0, h], by simp [PyData.depth]⟩
theorem sortI (l : List Int) : sortD (l.map .int) = (l.mergeSort fun a b => decide (a ≤ b)).map .int := by
  refine (List.map_mergeSort fun a _ b _ => ?_).symm
  have := congrFun (congrFun (PySem.W.dataLe_int (k := (id : Int → Int))) a) b
  exact this.symm
theorem sortI_perm {l : List Int} {m : List Int} (h : l.Perm m) (hm : m.Pairwise (· ≤ ·)) : sortD (l.map .int) = m.map .int := by
  rw [sortI]
  congr 1
  have h1 := List.pairwise_mergeSort (le := fun a b : Int => decide (a ≤ b)) (fun a b c h1 h2 => by simp at *; omega) (fun a b => by simp; omega) l
  refine List.Perm.eq_of_pairwise (le := (· ≤ ·)) (fun a b _ _ h1 h2 => by omega) (h1.imp fun h => by simpa using h) hm ((List.mergeSort_perm l _).trans h)
theorem sortI_ok (l : List Int) : SortOk (l.map .int) := by
  unfold SortOk
  simp only [Bool.and_eq_true, Bool.or_eq_true, List.all_eq_true, List.mem_map, Bool.not_eq_true']
  refine ⟨⟨?_, ?_⟩, .inr ?_⟩
  · rintro x ⟨a, _, rfl⟩; simp
  · rintro x ⟨a, _, rfl⟩ y ⟨b, _, rfl⟩; rfl
  · rintro x ⟨a, _, rfl⟩; exact ⟨rfl, rfl⟩
theorem KInt.of {K : PySem.W.Frag} {x : Str} {n : Int} {t : Tok} (h : PySem.W.nsIn K mainGlobals x = some (some (.int n t))) : ∃ t, PySem.W.nsIn K mainGlobals x = some (some (.int n t)) := ⟨t, h⟩
theorem KTupI.of {K : PySem.W.Frag} {x : Str} {xs : List Str} {b : Addr} {c : Value} {d : Option Addr} {its : Array Value} {n : Nat} {sl : Array (Option Value)} (h1 : PySem.W.nsIn K mainGlobals x = some (some (.ref b))) (h2 : K.lookup b = some ⟨c, d, .seq its n, sl⟩) (h3 : c = .type "tuple")
    (h5 : its.size ≤ sizeLine) (h6 : Vals (xs.map V.str) its.toList) : KTupI K x xs := ⟨b, _, its, n, h1, h2, h3, rfl, h5, h6⟩
end VL

/-! the draws, first kind: a list, taken from its end -/
namespace VL
open PySem PySem.Spec PyProof.Rows L2
noncomputable def dA_draws_b1 : FS := sIf (asB (vBin gtP (vVar 5) (vC (.int 0)))) (sSeq (sExpr (vMth isLstV mAppend (vVar 1) (aCons (vBin modP (vCall (one intP1) (aCons (vVar 5) (aNil))) (vC (.int 997))) (aNil))))
  (sSet 5 (vBin fdivP (vVar 5) (vC (.int 997))))) (sNil)
noncomputable def dA_draws_b2 : FS := sSeq (sSet 5 (vCall (one absP) (aCons (vVar 2) (aNil))))
  (sSeq (sIf (asB (vBin ltP (vVar 5) (vBin powP (vC (.int 10)) (vC (.int 18))))) (sSeq (sSet 6 (vBin modP (vCall (one intP1) (aCons (vBin addP (vBin mulP (vVar 5) (vC (.int 48271))) (vC (.int 11))) (aNil))) (vC (.int 2147483647))))
  (sSeq (sExpr (vMth isLstV mAppend (vVar 1) (aCons (vBin modP (vCall (one intP1) (aCons (vBin addP (vBin mulP (vVar 6) (vC (.int 69621))) (vVar 5)) (aNil))) (vC (.int 2147483629))) (aNil))))
  (sSeq (sExpr (vMth isLstV mAppend (vVar 1) (aCons (vBin modP (vCall (one intP1) (aCons (vBin addP (vVar 6) (vBin fdivP (vVar 5) (vC (.int 7)))) (aNil))) (vC (.int 1000003))) (aNil))))
  (sSet 5 (vC (.int 0)))))) (sNil))
  (sFor (iRange1 (vC (.int 60))) (gSet 4) (dA_draws_b1)))
noncomputable def dA_draws_b3 : FS := sSeq (sSet 3 (vBin modP (vCall (one intP1) (aCons (vBin addP (vBin mulP (vVar 3) (vC (.int 48271))) (vC (.int 69621))) (aNil))) (vC (.int 2147483647))))
  (sExpr (vMth isLstV mAppend (vVar 1) (aCons (vBin fdivP (vVar 3) (vC (.int 5))) (aNil))))
noncomputable def dA_draws : FM := entry 7 1 leaveN (sSeq (sSet 1 (vOwn (nLst (aNil))))
  (sSeq (sFor (iSeq (vVar 0)) (gSet 2) (dA_draws_b2))
  (sSeq (sSet 3 (vC (.int 1)))
  (sSeq (sIf (asB (vBin gtP (vCall (one lenP) (aCons (vVar 0) (aNil))) (vC (.int 0)))) (sSet 3 (vBin addP (vC (.int 1)) (vCall (one absP) (aCons (vBinD ixD (vVar 0) (vC (.int 0))) (aNil))))) (sNil))
  (sSeq (sFor (iRange1 (vC (.int 900))) (gSet 4) (dA_draws_b3))
  (sRet (vOwn (nListRev (vVar 1)))))))))
noncomputable def dA_take : FM := entry 2 2 leaveF (sSeq (sIf (asB (vBin (eqP false) (vCall (one lenP) (aCons (vVar 0) (aNil))) (vC (.int 0)))) (sRet (vC (.int 0))) (sNil))
  (sRet (vBin modP (vCall (one intP1) (aCons (vMth isLstV mPop (vVar 0) aNil) (aNil))) (vVar 1))))
@[simp] theorem nListRev_ap (f : FE) (ρ : Slots) (st : Store) : nListRev f ρ st = (f ρ st >>= fun a => peek a.2 a.1 >>= fun d => match d with | .list ds => .ok (.lst ds.reverse, a.2) | _ => .bad) := rfl
/-- the draws' list -/
def DrA (ob : Ob) : Prop := ∃ l : List Int, ob = .lst (l.map .int)
theorem lst0 (l : List Int) (r : Store) : (Ob.lst (l.map .int) :: r : Store)[0]? = some (.lst (l.map .int)) := rfl
theorem takeA {ob : Ob} (hd : DrA ob) (r : Store) {b : Int} (h0 : 0 < b) (h1 : b < 2 ^ 60) : ∃ v ob', dA_take [.loc 0, .p (.int b)] (ob :: r) = .ok (.p (.int v), ob' :: r) ∧ DrA ob' ∧ 0 ≤ v ∧ v < b := by
  obtain ⟨l, rfl⟩ := hd
  have hdiv : ∀ l : Int, CDivW l b := fun l => wide_div h0 (b := 60) (by omega) (by decide) (by decide)
  have hp : peek (Ob.lst (l.map .int) :: r) (.loc 0) = .ok (.list (l.map .int)) := peek_lst (lst0 l r)
  have hi : isLstV (Ob.lst (l.map .int) :: r) (.loc 0) = true := isLst_at (lst0 l r)
  have hsp : ∀ ob : Ob, (ob :: r).take (r.length + 1) = ob :: r := fun ob => List.take_of_length_le (by simp)
  rcases List.eq_nil_or_concat l with rfl | ⟨l', x, rfl⟩
  · have hp : peek (Ob.lst [] :: r) (.loc 0) = .ok (.list []) := rfl
    exact ⟨0, _, by simp [dA_take, hp, hsp], ⟨[], rfl⟩, Int.le_refl _, h0⟩
  · have hm : mPop (Ob.lst ((l'.concat x).map .int) :: r) (.loc 0) [] = .ok (.p (.int x), .lst (l'.map .int) :: r) := by
      unfold mPop
      simp
    refine ⟨x % b, .lst (l'.map .int), ?_, ⟨l', rfl⟩, Int.emod_nonneg _ (Int.ne_of_gt h0), Int.emod_lt_of_pos _ h0⟩
    have hne : (l'.concat x).map PyData.int ≠ [] := by simp
    generalize (l'.concat x).map PyData.int = L at hm hne hp hi
    simp [dA_take, hp, hi, hm, hne, hdiv, h0, hsp]
theorem sSeq_nx {sf sh : FS} {ρ ρ' : Slots} {st st' : Store} (h : sf ρ st = .ok (.nx, ρ', st')) : sSeq sf sh ρ st = sh ρ' st' := by rw [sSeq_ap, h]; rfl
theorem sFor_r1 {n : Int} (h : In62 n) (gt : FG) (b : FS) (ρ : Slots) (st : Store) : sFor (iRange1 (vC (.int n))) gt b ρ st = forG ⟨rangeD 0 n, none⟩ gt b (rangeD 0 n) ρ st := by
  rw [sFor_ap, iRange1_ap, vC_ap]
  simp only [R.ok_bind, if_pos h]
  rfl
theorem sFor_seq {x : Vd} {i : Nat} {l : List PyData} {ρ : Slots} (hx : ρ[i]? = some (some x)) (st : Store) (h : srcOf st x = .ok ⟨l, none⟩) (gt : FG) (b : FS) : sFor (iSeq (vVar i)) gt b ρ st = forG ⟨l, none⟩ gt b l ρ st := by
  rw [sFor_ap, iSeq_ap, vVar_ap _ _ _ hx]
  simp only [R.ok_bind, h]
  rfl
theorem app_int (l : List Int) (x : Int) (hl : l.length < 1000000) : mAppend [.lst (l.map .int)] (.loc 0) [.p (.int x)] = .ok (.p .none, [.lst ((l ++ [x]).map .int)]) := by
  rw [mAppend_at (st := [.lst (l.map .int)]) (k := 0) (l := l.map .int) rfl (by rw [List.length_map, LIM_eq]; omega)]
  simp
theorem isl_int (l : List Int) : isLstV [.lst (l.map .int)] (.loc 0) = true := rfl
theorem drawsA_b1 (sc : PyData) (x2 x3 x6 : Option Vd) (z : Int) (l : List Int) (x4 : Option Vd) (hl : l.length < 900000) : ∃ (z' : Int) (l' : List Int), dA_draws_b1 [some (.p sc), some (.loc 0), x2, x3, x4, some (.p (.int z)), x6] [.lst (l.map .int)] = .ok (.nx, [some (.p sc), some (.loc 0), x2, x3, x4, some (.p (.int z')), x6], [.lst (l'.map .int)]) ∧ l'.length ≤ l.length + 1 := by
  have hdiv : ∀ l : Int, CDivW l 997 := fun l => wide_div (by decide) (b := 60) (by decide) (by decide) (by decide)
  by_cases h : 0 < z
  · refine ⟨z / 997, l ++ [z % 997], ?_, by simp⟩
    have ha := app_int l (z % 997) (by omega)
    have hi := isl_int l
    generalize (l ++ [z % 997]).map PyData.int = L2 at ha ⊢
    generalize l.map PyData.int = L at ha hi ⊢
    simp [dA_draws_b1, h, hi, ha, hdiv]
  · exact ⟨z, l, by simp [dA_draws_b1, h], by omega⟩
theorem drawsA_b2 (sc : PyData) (x3 x4 x5 x6 : Option Vd) (c : Int) (l : List Int) (hl : l.length < 800000) : ∃ (x4' x5' x6' : Option Vd) (l' : List Int), dA_draws_b2 [some (.p sc), some (.loc 0), some (.p (.int c)), x3, x4, x5, x6] [.lst (l.map .int)] = .ok (.nx, [some (.p sc), some (.loc 0), some (.p (.int c)), x3, x4', x5', x6'], [.lst (l'.map .int)]) ∧ l'.length ≤ l.length + 100 := by
  have hdiv : ∀ l : Int, CDivW l 7 := fun l => wide_div (by decide) (b := 60) (by decide) (by decide) (by decide)
  have hd1 : ∀ l : Int, CDivW l 2147483647 := fun l => wide_div (by decide) (b := 60) (by decide) (by decide) (by decide)
  have hd2 : ∀ l : Int, CDivW l 2147483629 := fun l => wide_div (by decide) (b := 60) (by decide) (by decide) (by decide)
  have hd3 : ∀ l : Int, CDivW l 1000003 := fun l => wide_div (by decide) (b := 60) (by decide) (by decide) (by decide)
  have e1 : CPow 10 18 := CPow_small
  have i60 : In62 60 := in62 (by decide) (by decide)
  have loop : ∀ (z : Int) (l : List Int) (x4 x6 : Option Vd), l.length < 850000 → ∃ (x4' : Option Vd) (z' : Int) (l' : List Int), forG ⟨rangeD 0 60, none⟩ (gSet 4) dA_draws_b1 (rangeD 0 60) [some (.p sc), some (.loc 0), some (.p (.int c)), x3, x4, some (.p (.int z)), x6] [.lst (l.map .int)] =
      .ok (.nx, [some (.p sc), some (.loc 0), some (.p (.int c)), x3, x4', some (.p (.int z')), x6], [.lst (l'.map .int)]) ∧ l'.length ≤ l.length + 60 := by
    intro z l x4 x6 hl
    obtain ⟨ρ', st', e, x4', z', l', rfl, rfl, hle⟩ := forG_ix (src := rangeD 0 60) (gt := gSet 4) (body := dA_draws_b1) (ds := rangeD 0 60) (st := [.lst (l.map .int)]) (ρ := [some (.p sc), some (.loc 0), some (.p (.int c)), x3, x4, some (.p (.int z)), x6])
      (fun i ρ s => ∃ (x4' : Option Vd) (z' : Int) (l' : List Int), ρ = [some (.p sc), some (.loc 0), some (.p (.int c)), x3, x4', some (.p (.int z')), x6] ∧ s = [.lst (l'.map .int)] ∧ l'.length ≤ l.length + i)
      (fun i d ρ s hd hP => by
        obtain ⟨x4', z', l', rfl, rfl, hle⟩ := hP
        have hi : i < 60 := by have := (List.getElem?_eq_some_iff.mp hd).1; rw [rangeD_len] at this; simpa using this
        obtain ⟨z2, l2, e, h2⟩ := drawsA_b1 sc (some (.p (.int c))) x3 x6 z' l' (some (.p d)) (by omega)
        exact ⟨_, _, _, rfl, .inl e, _, z2, l2, rfl, rfl, by omega⟩)
      ⟨x4, z, l, rfl, rfl, by omega⟩
    rw [rangeD_len] at hle
    exact ⟨x4', z', l', e, by simpa using hle⟩
  by_cases h : (c.natAbs : Int) < 1000000000000000000
  · have hm1 : PySem.IntMulOk (c.natAbs : Int) 48271 := mul_okL
    obtain ⟨f, hf⟩ : ∃ f, f = ((c.natAbs : Int) * 48271 + 11) % 2147483647 := ⟨_, rfl⟩
    have hm2 : PySem.IntMulOk f 69621 := mul_okL
    have a1 := app_int l ((f * 69621 + (c.natAbs : Int)) % 2147483629) (by omega)
    have a2 := app_int (l ++ [(f * 69621 + (c.natAbs : Int)) % 2147483629]) ((f + (c.natAbs : Int) / 7) % 1000003) (by simp; omega)
    obtain ⟨x4', z', l', el, hle⟩ := loop 0 (l ++ [(f * 69621 + (c.natAbs : Int)) % 2147483629] ++ [(f + (c.natAbs : Int) / 7) % 1000003]) x4 (some (.p (.int f))) (by simp; omega)
    refine ⟨x4', some (.p (.int z')), some (.p (.int f)), l', ?_, by simp at hle; omega⟩
    have i1 := isl_int l
    have i2 := isl_int (l ++ [(f * 69621 + (c.natAbs : Int)) % 2147483629])
    generalize (l ++ [(f * 69621 + (c.natAbs : Int)) % 2147483629] ++ [(f + (c.natAbs : Int) / 7) % 1000003]).map PyData.int = L3 at a2 el
    generalize (l ++ [(f * 69621 + (c.natAbs : Int)) % 2147483629]).map PyData.int = L2 at a1 a2 i2
    generalize l.map PyData.int = L at a1 i1 ⊢
    unfold dA_draws_b2
    rw [sSeq_nx (ρ' := [some (.p sc), some (.loc 0), some (.p (.int c)), x3, x4, some (.p (.int (c.natAbs : Int))), x6]) (st' := [.lst L]) (by simp)]
    rw [sSeq_nx (ρ' := [some (.p sc), some (.loc 0), some (.p (.int c)), x3, x4, some (.p (.int 0)), some (.p (.int f))]) (st' := [.lst L3]) (by
      simp [h, e1, hm1, hm2, hd1, hd2, hd3, hdiv, ← hf, a1, a2, i1, i2])]
    rw [sFor_r1 i60]
    exact el
  · obtain ⟨x4', z', l', el, hle⟩ := loop (c.natAbs : Int) l x4 x6 (by omega)
    refine ⟨x4', some (.p (.int z')), x6, l', ?_, by omega⟩
    unfold dA_draws_b2
    rw [sSeq_nx (ρ' := [some (.p sc), some (.loc 0), some (.p (.int c)), x3, x4, some (.p (.int (c.natAbs : Int))), x6]) (st' := [.lst (l.map .int)]) (by simp)]
    rw [sSeq_nx (ρ' := [some (.p sc), some (.loc 0), some (.p (.int c)), x3, x4, some (.p (.int (c.natAbs : Int))), x6]) (st' := [.lst (l.map .int)]) (by simp [h, e1])]
    rw [sFor_r1 i60]
    exact el
theorem drawsA_b3 (sc : PyData) (x2 x4 x5 x6 : Option Vd) (z : Int) (l : List Int) (hl : l.length < 900000) : ∃ (z' : Int) (l' : List Int), dA_draws_b3 [some (.p sc), some (.loc 0), x2, some (.p (.int z)), x4, x5, x6] [.lst (l.map .int)] = .ok (.nx, [some (.p sc), some (.loc 0), x2, some (.p (.int z')), x4, x5, x6], [.lst (l'.map .int)]) ∧ l'.length ≤ l.length + 1 := by
  have hdiv : ∀ l : Int, CDivW l 5 := fun l => wide_div (by decide) (b := 60) (by decide) (by decide) (by decide)
  have hm : PySem.IntMulOk z 48271 := mul_okL
  obtain ⟨f, hf⟩ : ∃ f, f = (z * 48271 + 69621) % 2147483647 := ⟨_, rfl⟩
  have ha := app_int l (f / 5) (by omega)
  refine ⟨f, l ++ [f / 5], ?_, by simp⟩
  have hi := isl_int l
  generalize (l ++ [f / 5]).map PyData.int = L2 at ha ⊢
  generalize l.map PyData.int = L at ha hi ⊢
  simp [dA_draws_b3, hm, ← hf, hi, ha, hdiv]
theorem drawsA_ok (ns : List Int) (hns : ns.length ≤ 63) : ∃ ob, dA_draws [.p (.list (ns.map .int))] [] = .ok (.loc 0, [ob]) ∧ DrA ob := by
  obtain ⟨sc, hsc⟩ : ∃ sc, PyData.list (ns.map .int) = sc := ⟨_, rfl⟩
  have i900 : In62 900 := in62 (by decide) (by decide)
  obtain ⟨ρ1, st1, e1, x2, x4, x5, x6, l1, rfl, rfl, hl1⟩ := forG_ix (src := ns.map .int) (gt := gSet 2) (body := dA_draws_b2) (ds := ns.map .int) (st := [.lst []]) (ρ := [some (.p sc), some (.loc 0), none, none, none, none, none])
    (fun i ρ s => ∃ (x2 x4 x5 x6 : Option Vd) (l : List Int), ρ = [some (.p sc), some (.loc 0), x2, none, x4, x5, x6] ∧ s = [.lst (l.map .int)] ∧ l.length ≤ 100 * i)
    (fun i d ρ s hd hP => by
      obtain ⟨x2, x4, x5, x6, l, rfl, rfl, hle⟩ := hP
      have hi : i < 63 := by have := (List.getElem?_eq_some_iff.mp hd).1; rw [List.length_map] at this; omega
      obtain ⟨c, rfl⟩ : ∃ c, d = .int c := by
        rw [List.getElem?_map] at hd
        cases e : ns[i]? with
        | none => rw [e] at hd; cases hd
        | some c => rw [e] at hd; cases hd; exact ⟨c, rfl⟩
      obtain ⟨x4', x5', x6', l', e, h2⟩ := drawsA_b2 sc none x4 x5 x6 c l (by omega)
      exact ⟨_, _, _, rfl, .inl e, _, x4', x5', x6', l', rfl, rfl, by omega⟩)
    ⟨none, none, none, none, [], rfl, rfl, by simp⟩
  rw [List.length_map] at hl1
  have seed : ∃ z : Int, sIf (asB (vBin gtP (vCall (one lenP) (aCons (vVar 0) (aNil))) (vC (.int 0)))) (sSet 3 (vBin addP (vC (.int 1)) (vCall (one absP) (aCons (vBinD ixD (vVar 0) (vC (.int 0))) (aNil))))) (sNil)
      [some (.p sc), some (.loc 0), x2, some (.p (.int 1)), x4, x5, x6] [.lst (l1.map .int)] = .ok (.nx, [some (.p sc), some (.loc 0), x2, some (.p (.int z)), x4, x5, x6], [.lst (l1.map .int)]) := by
    subst hsc
    generalize l1.map PyData.int = L
    cases ns with
    | nil => exact ⟨1, by simp⟩
    | cons c r =>
      have h0 : atI (PyData.int c :: r.map PyData.int) 0 = some (.int c) := atI_get (j := 0) rfl
      exact ⟨1 + (c.natAbs : Int), by simp [h0]⟩
  obtain ⟨z, hz⟩ := seed
  obtain ⟨ρ2, st2, e2, x4', z', l2, rfl, rfl, hl2⟩ := forG_ix (src := rangeD 0 900) (gt := gSet 4) (body := dA_draws_b3) (ds := rangeD 0 900) (st := [.lst (l1.map .int)]) (ρ := [some (.p sc), some (.loc 0), x2, some (.p (.int z)), x4, x5, x6])
    (fun i ρ s => ∃ (x4 : Option Vd) (z : Int) (l : List Int), ρ = [some (.p sc), some (.loc 0), x2, some (.p (.int z)), x4, x5, x6] ∧ s = [.lst (l.map .int)] ∧ l.length ≤ 6300 + i)
    (fun i d ρ s hd hP => by
      obtain ⟨x4, z, l, rfl, rfl, hle⟩ := hP
      have hi : i < 900 := by have := (List.getElem?_eq_some_iff.mp hd).1; rw [rangeD_len] at this; simpa using this
      obtain ⟨z', l', e, h2⟩ := drawsA_b3 sc x2 (some (.p d)) x5 x6 z l (by omega)
      exact ⟨_, _, _, rfl, .inl e, _, z', l', rfl, rfl, by omega⟩)
    ⟨x4, z, l1, rfl, rfl, by omega⟩
  refine ⟨.lst (l2.reverse.map .int), ?_, l2.reverse, rfl⟩
  unfold dA_draws
  rw [hsc, entry_ap 7 1 leaveN _ [Vd.p sc] [] rfl]
  have s1 : sSet 1 (vOwn (nLst (aNil))) ([Vd.p sc].map some ++ List.replicate (7 - 1) none) [] = .ok (.nx, [some (.p sc), some (.loc 0), none, none, none, none, none], [.lst []]) := by simp
  have hs0 : srcOf [.lst []] (.p sc) = .ok ⟨ns.map .int, none⟩ := by rw [← hsc]; rfl
  rw [sSeq_nx s1, sSeq_nx ((sFor_seq (x := .p sc) rfl _ hs0 _ _).trans e1), sSeq_nx (ρ' := [some (.p sc), some (.loc 0), x2, some (.p (.int 1)), x4, x5, x6]) (st' := [.lst (l1.map .int)]) (by simp), sSeq_nx hz, sSeq_nx ((sFor_r1 i900 _ _ _ _).trans e2)]
  have hr : (l2.map PyData.int).reverse = l2.reverse.map .int := by rw [List.map_reverse]
  have hpk : peek [.lst (l2.map .int)] (.loc 0) = .ok (.list (l2.map .int)) := rfl
  rw [← hr]
  generalize l2.map PyData.int = L at hpk ⊢
  simp [hpk, leaveN]
end VL

/-! methods: xs.extend(ys), xs.reverse() -/
namespace PySem.VLI
open PySem PySem.AutoSeq1 PyProof.Rows L2
theorem list_extend_l (l : Addr) (items : Array Value) (n : Nat) (b : Addr) (items2 : Array Value) (n2 : Nat) (dd : Option Addr) (sl : Array (Option Value)) (hs0 : ¬(!items.isEmpty && Builtin.List.listTooLong (items.size + items2.size)) = true) (hs1 : items.size ≤ sizeLine) (hs2 : items.size + items2.size ≤ sizeLine + 1 := by seq_fits) :
    Meets (Builtin.«list.extend» ⟨[.ref l, .ref b], []⟩) (fun _ R s => s.heap.get? l = some { cls := .type "list", dict := none, data := .seq items n, slots := #[] } ∧ s.heap.get? b = some { cls := .type "list", dict := dd, data := .seq items2 n2, slots := sl } ∧ R (.ok (.ret Value.none)) { s with heap := s.heap.update l (Obj.mapSeq fun x => x ++ items2), toks := s.toks }) :=
  .of_wp fun prog w A R s h => by
    obtain ⟨hp, g, d, tk, os⟩ := s; obtain ⟨hl, hb, h⟩ := h; have f1 := idx_int; have f2 := PySem.AutoSeq1.sub_tuple_tuple; have f3 := PySem.AutoSeq1.sub_list_list; have f4 := PySem.AutoSeq1.sub_tuple_list; have f5 := PySem.AutoSeq1.sub_list_tuple;
    have hz' : (items ++ items2).size ≤ sizeLine + 1 := by rw [Array.size_append]; exact hs2
    wp_walk using (wpAny_updateSeq hl rfl (hz := hs1) (_hz' := hz')), wpAny_loadPart' hl, wpAny_loadPart' hb; exact ⟨_, rfl, h⟩
theorem list_extend_t (l : Addr) (items : Array Value) (n : Nat) (b : Addr) (items2 : Array Value) (n2 : Nat) (dd : Option Addr) (sl : Array (Option Value)) (hs0 : ¬(!items.isEmpty && Builtin.List.listTooLong (items.size + items2.size)) = true) (hs1 : items.size ≤ sizeLine) (hs2 : items.size + items2.size ≤ sizeLine + 1 := by seq_fits) :
    Meets (Builtin.«list.extend» ⟨[.ref l, .ref b], []⟩) (fun _ R s => s.heap.get? l = some { cls := .type "list", dict := none, data := .seq items n, slots := #[] } ∧ s.heap.get? b = some { cls := .type "tuple", dict := dd, data := .seq items2 n2, slots := sl } ∧ R (.ok (.ret Value.none)) { s with heap := s.heap.update l (Obj.mapSeq fun x => x ++ items2), toks := s.toks }) :=
  .of_wp fun prog w A R s h => by
    obtain ⟨hp, g, d, tk, os⟩ := s; obtain ⟨hl, hb, h⟩ := h; have f1 := idx_int; have f2 := PySem.AutoSeq1.sub_tuple_tuple; have f3 := PySem.AutoSeq1.sub_list_list; have f4 := PySem.AutoSeq1.sub_tuple_list; have f5 := PySem.AutoSeq1.sub_list_tuple;
    have hz' : (items ++ items2).size ≤ sizeLine + 1 := by rw [Array.size_append]; exact hs2
    wp_walk using (wpAny_updateSeq hl rfl (hz := hs1) (_hz' := hz')), wpAny_loadPart' hl, wpAny_loadPart' hb; exact ⟨_, rfl, h⟩
end PySem.VLI
namespace VL
open PySem PySem.Spec PyProof.Rows L2
section
variable {X : Cx} {W : Wish}
def rExtM (K : PySem.W.Frag) : V → List V → Hp → VK → Prop := fun x ys H Q => ∃ l b xs zs, x = .ref l ∧ ys = [.ref b] ∧ H l = some (.lst xs) ∧ (SqL K H b zs ∨ SqT K H b zs) ∧ xs.length + zs.length ≤ sizeLine ∧ Q .non (upd H l (.lst (xs ++ zs)))
theorem mt_extA : MtR X "list.extend" (rExtM X.K) := by
  intro pins s σ H x xs v us Q I rx rxs h
  obtain ⟨l, b, xs, zs, rfl, rfl, hH, hB, hz, q⟩ := h
  cases rx
  obtain ⟨u, rfl, ru⟩ := rxs.one
  cases ru
  obtain ⟨z, its, n, r, hl, e⟩ := I.lstM hH
  have fin : ∀ {its2 : List Value}, Vals zs its2 → ∃ w' H', Inv X pins σ H' { s with heap := s.heap.update l (Obj.mapSeq fun x => x ++ its2.toArray), toks := s.toks } ∧ RelV w' Value.none ∧ Q w' H' := fun {its2} r2 =>
    ⟨.non, _, I.lset (its' := its ++ its2) (t' := s.toks) hH e (by simp) (r.append r2) (by rw [List.length_append]; omega), rfl, q⟩
  have sz : ∀ {its2 : List Value}, Vals zs its2 → its.toArray.size + its2.toArray.size ≤ sizeLine ∧ ¬ (!its.toArray.isEmpty && Builtin.List.listTooLong (its.toArray.size + its2.toArray.size)) = true := fun {its2} r2 => by
    have h1 := r.length
    have h2 := r2.length
    have hsz : its.toArray.size + its2.toArray.size ≤ sizeLine := by rw [List.size_toArray, List.size_toArray]; omega
    refine ⟨hsz, ?_⟩
    rw [notLongL hsz, Bool.and_false]
    exact Bool.false_ne_true
  rcases hB with hB | hB
  · obtain ⟨its2, r2, ⟨⟨cls2, dd, dt, sl⟩, n2, ho, hc, hd, hdat⟩, hz2⟩ := I.list hB
    simp only at hc hd hdat
    subst hc hd hdat
    obtain ⟨hsz, hlong⟩ := sz r2
    refine call_meets PySem.F.slot_list_extend ⟨_, e, rfl⟩ PySem.F.entry_list_extend (PySem.F.args_list_extend_2 _ _)
      (PySem.VLI.list_extend_l l its.toArray n b its2.toArray n2 _ _ hlong (by rw [List.size_toArray]; omega) (by omega)) ⟨e, ho, ?_⟩
    obtain ⟨w', H', h1, h2, h3⟩ := fin r2
    exact ⟨w', H', h1, h2, h3⟩
  · obtain ⟨its2, r2, ⟨⟨cls2, dd, dt, sl⟩, ho, hc, n2, hdat⟩, hz2⟩ := I.tuple hB
    simp only at hc hdat
    subst hc hdat
    obtain ⟨hsz, hlong⟩ := sz r2
    refine call_meets PySem.F.slot_list_extend ⟨_, e, rfl⟩ PySem.F.entry_list_extend (PySem.F.args_list_extend_2 _ _)
      (PySem.VLI.list_extend_t l its.toArray n b its2.toArray n2 _ _ hlong (by rw [List.size_toArray]; omega) (by omega)) ⟨e, ho, ?_⟩
    obtain ⟨w', H', h1, h2, h3⟩ := fin r2
    exact ⟨w', H', h1, h2, h3⟩
def mExtend (st : Store) (x : Vd) (ds : List Vd) : R (Vd × Store) := match x, ds with
  | .loc k, [d] => peek st d >>= fun v => match itemsOf v, st[k]? with
    | some ys, some (.lst l) => if l.length + ys.length ≤ LIM then .ok (.p .none, st.set k (.lst (l ++ ys))) else .bad
    | _, _ => .bad
  | _, _ => .bad
theorem mv_extend : MthV X W "list" "list.extend" isLstV mExtend := by
  refine ⟨_, mt_extA, isLst_ty, fun ρ st σ g x v ds vs Q rel hx hd k => ?_⟩
  cases x with
  | p _ => exact k.elim
  | loc j =>
    cases ds with
    | nil => exact k.elim
    | cons y r =>
      cases r with
      | cons _ _ => exact k.elim
      | nil =>
        obtain ⟨u, ur, rfl, h1, h2⟩ := hd.uncons
        cases h2.nil_inv
        obtain ⟨w, pw, k2⟩ := peek_bind (show KR _ _ (peek st y >>= _) from k)
        cases ei : itemsOf w with
        | none => simp only [ei] at k2; exact k2.elim
        | some ys =>
          cases ej : st[j]? with
          | none => simp only [ei, ej] at k2; exact k2.elim
          | some ob =>
            cases ob with
            | lst l =>
              simp only [ei, ej] at k2
              split at k2
              · rename_i hlen
                obtain ⟨a, ha, rfl⟩ := hx
                obtain ⟨hF, xs, hH, hL⟩ := own_lst rel.wd ha ej
                obtain ⟨b, zs, rfl, sq, hZ⟩ := (pk_of rel.wd h1 pw).sq rel.wd ei
                have hn : NewAt X.K g.F (.lst (l ++ ys)) (.lst (xs ++ zs)) := ⟨_, rfl, hL.append hZ⟩
                refine ⟨a, b, xs, zs, rfl, rfl, hH, sq, by rw [hL.1, hZ.1]; rw [lim_eq] at *; exact hlen, ?_⟩
                exact k2 .non _ (ext_mut ha _) (rel_mut rel ha hF hn) (show Has X.K _ .none .non from .non)
              · exact k2.elim
            | _ => simp only [ei, ej] at k2; exact k2.elim
def mReverse (st : Store) (x : Vd) (ds : List Vd) : R (Vd × Store) := match x, ds with
  | .loc k, [] => match st[k]? with
    | some (.lst l) => .ok (.p .none, st.set k (.lst l.reverse))
    | _ => .bad
  | _, _ => .bad
end
theorem mExtend_at {st : Store} {k : Nat} {l ys : List PyData} {d : Vd} {v : PyData} (h : st[k]? = some (.lst l)) (hp : peek st d = .ok v) (hi : itemsOf v = some ys) (hl : l.length + ys.length ≤ LIM) : mExtend st (.loc k) [d] = .ok (.p .none, st.set k (.lst (l ++ ys))) := by
  show (peek st d >>= _) = _
  rw [hp, R.ok_bind, hi, h]
  exact if_pos hl
end VL
namespace VL
open PySem PySem.Spec PyProof.Rows L2
section
variable {X : Cx} {W : Wish}
/-! ### a + b, a list that is new -/
def nCat (f h : FE) : FN := fun ρ st => f ρ st >>= fun a => h ρ a.2 >>= fun b => peek b.2 a.1 >>= fun x => peek b.2 b.1 >>= fun y => match x, y with
  | .list l, .list m => if l.length + m.length ≤ LIM then .ok (.lst (l ++ m), b.2) else .bad
  | _, _ => .bad
theorem vn_cat {a b : Expr} {f h : FE} {pos : Pos} (ha : VE X W a f) (hb : VE X W b h) : VN X W (.BinOp a .Add b pos) (nCat f h) := by
  obtain ⟨t, pe, run⟩ := ha.run
  obtain ⟨u, pu, run2⟩ := hb.run
  refine ⟨_, pe_op op_catL pe pu, fun ρ st σ g Q rel k => ?_⟩
  refine run ρ st σ g _ (okN X.K ρ σ Q) _ okN.goes rel k fun d1 st1 v1 g1 e1 r1 h1 k1 => ?_
  refine run2 ρ st1 σ g1 _ (okN X.K ρ σ Q) _ okN.goes r1 k1 fun d2 st2 v2 g2 e2 r2 h2 k2 => ?_
  obtain ⟨x, px, k3⟩ := peek_bind k2
  obtain ⟨y, py, k4⟩ := peek_bind k3
  have hx := pk_of r2.wd (h1.ext e2) px
  have hy := pk_of r2.wd h2 py
  cases x with
  | list l =>
    cases y with
    | list m =>
      simp only at k4
      split at k4
      · rename_i hlen
        obtain ⟨p, xs, rfl, sx, hX⟩ := hx.lst
        obtain ⟨q, ys, rfl, sy, hY⟩ := hy.lst
        refine ⟨p, q, xs, ys, rfl, rfl, sx, sy, by rw [hX.1, hY.1]; rw [lim_eq] at *; exact hlen, fun z hz => ?_⟩
        exact okN_new r2 k4 hz ⟨_, rfl, hX.append hY⟩
      · exact k4.elim
    | _ => exact k4.elim
  | _ => cases y <;> exact k4.elim
end
theorem en_cat {f h : FE} {ρ : Slots} {st st1 st2 : Store} {a b : Vd} {l m : List PyData} (h1 : f ρ st = .ok (a, st1)) (h2 : h ρ st1 = .ok (b, st2)) (p1 : peek st2 a = .ok (.list l)) (p2 : peek st2 b = .ok (.list m)) (hl : l.length + m.length ≤ LIM) : nCat f h ρ st = .ok (.lst (l ++ m), st2) := by
  show (f ρ st >>= _) = _
  rw [h1, R.ok_bind]
  show (h ρ st1 >>= _) = _
  rw [h2, R.ok_bind]
  show (peek st2 a >>= _) = _
  rw [p1, R.ok_bind, p2, R.ok_bind]
  exact if_pos hl
end VL

set_option maxHeartbeats 1000000
/-! walks over an owned dict's keys: it is frozen then -/
namespace VL
open PySem PySem.Spec PyProof.Rows L2
/-- the dict is locked when the walk begins -/
def iKeysL (td : TE) : TI := fun σ H R => td σ H fun x H1 => ∃ d, x = .ref d ∧ ((∃ kvs, H1 d = some (.dK kvs) ∧ ∀ o, R (Itk d o kvs) (upd H1 d (.frz o (.dK kvs)))) ∨ ∃ kvs, H1 d = some (.dT kvs) ∧ ∀ o, R (Itkt d o kvs) (upd H1 d (.frz o (.dT kvs))))
theorem pi_keysL {X : Cx} {tg e : Expr} {td : TE} (he : PE X e td) : PI X tg e (iKeysL td) := by
  refine ⟨fun pins s σ H R I h => ?_⟩
  refine thn (he.run pins s σ H _ I h) fun u s1 ⟨x, H1, I1, rx, d, ex, q⟩ => ?_
  subst ex
  obtain rfl : u = Value.ref d := rx
  rcases q with ⟨kvs, hd, q⟩ | ⟨kvs, hd, q⟩
  · obtain ⟨o, I2⟩ := I1.lock hd (by first | trivial | exact True.intro)
    obtain ⟨hs, hgd, hx, es, ep, vs, hdt, hsz, kv, hm⟩ := I2.frzK upd_same
    refine iter_keys hs hgd hx hdt (pi_one (tk := s1.toks) I2 _ (turn_keys _ hdt) ⟨_, Heap.get?_push_size _ rfl, rfl, ?_⟩ (q o))
    rw [hsz] <;> rfl
  · obtain ⟨o, I2⟩ := I1.lock hd (by first | trivial | exact True.intro)
    obtain ⟨hs, hgd, hx, es, ep, hdt, hsz, ent⟩ := I2.frzT upd_same
    refine iter_keys hs hgd hx hdt (pi_one (tk := s1.toks) I2 _ (turn_keysT _ hdt) ⟨_, Heap.get?_push_size _ rfl, rfl, ?_⟩ (q o))
    rw [hsz] <;> rfl
/-- an owned dict's keys; it changes no more -/
def iKeysO (f : FE) : FI := fun ρ st => f ρ st >>= fun a => match a.1 with
  | .loc k => (match a.2[k]? with
    | some (.dct _ ds) => .ok (⟨ds.map (·.1), none⟩, a.2.set k (.fz (.dict ds)))
    | _ => .bad)
  | _ => .bad
theorem has_kV {K : PySem.W.Frag} {F : Hp} (k : Key) : Has K F (keyP k) (kV k) := by
  cases k with
  | inl i => exact .int i
  | inr x => exact .str x
theorem hasL_kV {K : PySem.W.Frag} {F : Hp} : ∀ l : List Key, HasL K F (l.map keyP) (l.map kV)
  | [] => .nil
  | k :: l => .cons (has_kV k) (hasL_kV l)
/-- an owned dict becomes a frozen, locked one -/
theorem lock_ok {K : PySem.W.Frag} {ρ : Slots} {st : Store} {σ : L2.St} {g : Gh} (r : Rel K ρ st σ g) {k : Nat} {a : Addr} (h1 : g.A[k]? = some a) {t : Bool} {ds : List (PyData × PyData)} (hk : st[k]? = some (.dct t ds)) {u : HO} (hu : g.H a = some u) (o : Obj) :
    Ext g ⟨upd g.F a (.frz o u), g.A, upd g.H a (.frz o u)⟩ ∧ Rel K ρ (st.set k (.fz (.dict ds))) σ ⟨upd g.F a (.frz o u), g.A, upd g.H a (.frz o u)⟩ := by
  have kl : k < st.length := (List.getElem?_eq_some_iff.mp hk).1
  obtain ⟨hF, q1⟩ := r.wd.own k a _ h1 hk
  have sm : Same g.F (upd g.F a (.frz o u)) := same_upd hF
  rw [hu] at q1
  have hd : Has K (upd g.F a (.frz o u)) (.dict ds) (.ref a) := has_dct (q1.mono sm) (.inr ⟨o, upd_same⟩)
  have ex : Ext g ⟨upd g.F a (.frz o u), g.A, upd g.H a (.frz o u)⟩ := ⟨sm, ⟨[], by simp, fun a z => by simp at z⟩, fun b x e _ hn => by
    show upd g.H a (.frz o u) b = some x
    rw [upd_ne (fun (z : b = a) => hn (by rw [z]; exact List.mem_of_getElem? h1))]; exact e, fun b e => by
    have e : upd g.H a (.frz o u) b = none := e
    by_cases hb : b = a
    · rw [hb, upd_same] at e; cases e
    · rw [upd_ne hb] at e; exact e, fun b x _ hb hf => by
    show upd g.F a (.frz o u) b = none
    rw [upd_ne (fun (z : b = a) => hb (by rw [z]; exact List.mem_of_getElem? h1))]; exact hf, fun b ps e hn => ⟨ps, by
    show upd g.H a (.frz o u) b = some (.tbl ps)
    rw [upd_ne (fun (z : b = a) => hn (by rw [z]; exact List.mem_of_getElem? h1))]; exact e⟩⟩
  refine ⟨ex, ⟨⟨fun b x q => ?_, r.wd.nd, by rw [List.length_set]; exact r.wd.len, fun b hb => ?_, fun j b ob hj hb => ?_, fun P hP => ?_⟩, r.sl.ext ex⟩⟩
  · have q : upd g.F a (.frz o u) b = some x := q
    show upd g.H a (.frz o u) b = some x
    by_cases hb : b = a
    · rw [hb, upd_same] at q ⊢; exact q
    · rw [upd_ne hb] at q ⊢; exact r.wd.sub b x q
  · show ∃ x, upd g.H a (.frz o u) b = some x
    by_cases hba : b = a
    · exact ⟨_, by rw [hba, upd_same]⟩
    · obtain ⟨x, hx⟩ := r.wd.there b hb
      exact ⟨x, by rw [upd_ne hba]; exact hx⟩
  · by_cases hjk : j = k
    · subst hjk
      rw [List.getElem?_set_self kl] at hb
      cases hb
      have : b = a := by
        have hj : g.A[j]? = some b := hj
        rw [h1] at hj; cases hj; rfl
      subst this
      exact hd
    · rw [List.getElem?_set_ne (Ne.symm hjk)] at hb
      have hba : b ≠ a := fun z => hjk (nd_ix r.wd.nd hj (z ▸ h1))
      refine (r.wd.own j b ob hj hb).ext sm (fun z => ?_) ?_
      · show upd g.F a (.frz o u) b = none
        rw [upd_ne hba]; exact z
      · show upd g.H a (.frz o u) b = g.H b
        rw [upd_ne hba]
  · have hPa : P.2 ≠ a := fun z => (r.wd.tabs P hP).2.2 (by rw [z]; exact List.mem_of_getElem? h1)
    exact (r.wd.tabs P hP).mono (show upd g.H a (.frz o u) P.2 = g.H P.2 by rw [upd_ne hPa]) (show upd g.F a (.frz o u) P.2 = g.F P.2 by rw [upd_ne hPa]) rfl
theorem walk_keysK {K : PySem.W.Frag} {g0 : Gh} {a : Addr} {o : Obj} {kvs : List (Key × V)} {ks : List PyData} (hF : g0.F a = some (.frz o (.dK kvs))) (hk : ks = kvs.map fun p => keyP p.1) : WalkD K ⟨ks, none⟩ g0 (Itk a o kvs) := by
  intro st g e w _
  have hH : g.H a = some (.frz o (.dK kvs)) := w.sub _ _ (e.frz _ _ hF)
  have hl : ks.length = kvs.length := by rw [hk, List.length_map]
  refine ⟨fun i hi => ⟨hH, by rw [← hl]; exact hi⟩, fun i hi => ⟨hH, by rw [← hl]; exact hi⟩, fun i x H' d hd hy => ?_⟩
  obtain ⟨e1, k, v, hkv, rfl⟩ := hy
  have hd : ks[i]? = some d := hd
  rw [hk, List.getElem?_map, hkv] at hd
  cases hd
  exact ⟨g, e1.symm, Ext.refl g, w, has_kV k⟩
theorem walk_keysT {K : PySem.W.Frag} {g0 : Gh} {a : Addr} {o : Obj} {kvs : List (List Key × V)} {ks : List PyData} (hF : g0.F a = some (.frz o (.dT kvs))) (hk : ks = kvs.map fun p => keyT p.1) : WalkD K ⟨ks, none⟩ g0 (Itkt a o kvs) := by
  intro st g e w _
  have hH : g.H a = some (.frz o (.dT kvs)) := w.sub _ _ (e.frz _ _ hF)
  have hl : ks.length = kvs.length := by rw [hk, List.length_map]
  refine ⟨fun i hi => ⟨hH, by rw [← hl]; exact hi⟩, fun i hi => ⟨hH, by rw [← hl]; exact hi⟩, fun i x H' d hd hy => ?_⟩
  obtain ⟨e1, k, v, q, hkv, rfl, hq⟩ := hy
  have hd : ks[i]? = some d := hd
  rw [hk, List.getElem?_map, hkv] at hd
  cases hd
  -- the key's tuple is frozen, too
  cases hFq : g.F q with
  | some z =>
    have := w.sub _ _ hFq
    rw [hq] at this; cases this
    exact ⟨g, e1.symm, Ext.refl g, w, .tup' hFq (hasL_kV k)⟩
  | none =>
    have sm : Same g.F (upd g.F q (.tup (k.map kV))) := same_upd hFq
    refine ⟨⟨upd g.F q (.tup (k.map kV)), g.A, g.H⟩, e1.symm, ⟨sm, ⟨[], by simp, fun a z => by simp at z⟩, fun _ _ z _ _ => z, fun _ z => z, fun b x hb hn hf => ?_, fun b ps z _ => ⟨ps, z⟩⟩, ⟨fun b x z => ?_, w.nd, w.len, w.there, fun j b ob hj hb => ?_, fun P hP => ?_⟩, .tup' upd_same (hasL_kV k)⟩
    · show upd g.F q _ b = none
      rw [upd_ne (fun z => hb.2 _ (by have := hb.1; rw [z, hq] at this; cases this; rfl))]; exact hf
    · have z : upd g.F q (.tup (k.map kV)) b = some x := z
      by_cases hb : b = q
      · rw [hb, upd_same] at z; cases z; rw [hb]; exact hq
      · rw [upd_ne hb] at z; exact w.sub b x z
    · have ow := w.own j b ob hj hb
      by_cases hbq : b = q
      · subst hbq
        cases ob with
        | lst l =>
          obtain ⟨_, xs, h, _⟩ := ow
          rw [hq] at h; cases h
        | dct t l =>
          obtain ⟨_, h⟩ := ow
          rw [hq] at h
          cases t with
          | false => obtain ⟨_, h, _⟩ := h; cases h
          | true => obtain ⟨_, h, _⟩ := h; cases h
        | fz d => exact Has.mono sm ow
      · refine ow.ext sm (fun z => ?_) rfl
        show upd g.F q _ b = none
        rw [upd_ne hbq]; exact z
    · have hPq : P.2 ≠ q := fun z => by
        obtain ⟨⟨ps, h, _⟩, _⟩ := w.tabs P hP
        rw [z, hq] at h; cases h
      exact (w.tabs P hP).mono rfl (show upd g.F q _ P.2 = g.F P.2 by rw [upd_ne hPq]) rfl
section
variable {X : Cx} {W : Wish}
theorem vi_keysO {tg l : Expr} {f : FE} (h : VE X W l f) : VI X W tg l (iKeysO f) := by
  obtain ⟨t, pe, run⟩ := h.run
  refine ⟨_, pi_keysL pe, fun ρ st σ g P rel k => ?_⟩
  refine run ρ st σ g _ (okI X.K ρ σ P) _ okI.goes rel k fun d1 st1 v1 g1 e1 r1 h1 k1 => ?_
  cases d1 with
  | p d => exact k1.elim
  | loc j =>
    obtain ⟨a, ha, rfl⟩ := h1
    simp only at k1
    cases ej : st1[j]? with
    | none => simp only [ej] at k1; exact k1.elim
    | some ob =>
      cases ob with
      | lst ds => simp only [ej] at k1; exact k1.elim
      | fz d => simp only [ej] at k1; exact k1.elim
      | dct t ds =>
        simp only [ej] at k1
        obtain ⟨hF, q1⟩ := r1.wd.own j a _ ha ej
        refine ⟨a, rfl, ?_⟩
        cases t with
        | false =>
          obtain ⟨xs, hx, hks, _⟩ := q1
          refine .inl ⟨xs, hx, fun o => ?_⟩
          obtain ⟨ex, r2⟩ := lock_ok r1 ha ej hx o
          exact k1 _ ⟨upd g1.F a (.frz o (.dK xs)), g1.A, upd g1.H a (.frz o (.dK xs))⟩ ex r2 trivial (walk_keysK upd_same hks)
        | true =>
          obtain ⟨xs, hx, hks, _⟩ := q1
          refine .inr ⟨xs, hx, fun o => ?_⟩
          obtain ⟨ex, r2⟩ := lock_ok r1 ha ej hx o
          exact k1 _ ⟨upd g1.F a (.frz o (.dT xs)), g1.A, upd g1.H a (.frz o (.dT xs))⟩ ex r2 trivial (walk_keysT upd_same hks)
end
end VL

/-! generator expressions that hand out values to a consumer with a list of its own (S) -/
namespace VL
open PySem PySem.Spec PyProof.Rows L2
/-- a value, and what it stands for -/
abbrev DV := PyData × V
section
variable {X : Cx} {pins : List (Addr × Obj)} {σ : L2.St} {H : Hp} {s : Shared}
/-- while the generator sleeps, its consumer changes S; all else is kept -/
theorem woken {ip : List (Addr × Obj)} {S : Addr} {oS oS' : Obj} {s' : Shared} (hpn : ∀ p ∈ X.pn, p.1 ≠ S) (hip : ∀ p ∈ ip, p.1 ≠ S) (hA : X.s_0.heap.objs.size ≤ S ∧ S ≠ X.env.locals ∧ ∀ x c, X.env.cells.lookup x = some c → c ≠ S)
    (I : Inv X ((S, oS) :: ip) σ H s) (ho : s'.os = s.os) (hg : AllBare s'.gens) (hk : ∀ b o, b ≠ S → s.heap.get? b = some o → s'.heap.get? b = some o) (eS' : s'.heap.get? S = some oS') (hc : ∀ v, oS'.data ≠ .cell v) : Inv X ((S, oS') :: ip) σ H s' := by
  obtain ⟨eS, hS0, hSL, hSf, _⟩ := I.pin (S, oS) (List.mem_append_right _ List.mem_cons_self)
  have I0 : Inv X ip σ H s := I.pins_of fun p hp => I.pin p (List.mem_append_right _ (List.mem_cons_of_mem _ hp))
  have nt : ∀ b u, H b = some u → b ≠ S := fun b u q hb => by rw [hb, hS0] at q; cases q
  obtain ⟨hh, g, d, t, o⟩ := s'
  have ho : o = s.os := ho
  subst ho
  have nc : ∀ b, b ∉ [S] → b ≠ S := fun b hb e => hb (by rw [e]; exact List.mem_singleton.mpr rfl)
  have J : Inv X ip σ H { s with heap := hh, gens := g, drawn := d, toks := t } := by
    refine I0.step (g' := g) (t' := t) (d' := d) (ch := [S]) (fun b hb => ?_)
      (fun b ob _ _ hc q _ => hk b ob (nc b hc) q) (fun b ob _ _ hc q _ => ⟨ob.slots, hk b ob (nc b hc) q⟩) (fun _ _ _ _ n => n) (fun b ob hc q => ⟨ob, hk b ob (nc b hc) q⟩)
      (fun _ _ q => q) (fun _ _ _ q => q) (fun b ps q => ⟨#[], by rw [q]; simp⟩) (fun m hm => ?_) (fun b u q => ?_) hg
    · rw [List.mem_singleton.mp hb]
      refine ⟨.inr hA.1, hA.2.1, hA.2.2, fun p hp => ?_⟩
      rcases List.mem_append.mp hp with hp | hp
      · exact hpn p hp
      · exact hip p hp
    · obtain ⟨ob, es, ep, ho, r⟩ := hm
      exact ⟨ob, es, ep, hk _ ob (Ne.symm hSL) ho, r⟩
    · refine (I0.hok b u q).stay (fun c v hc y => hk c v ?_ y) (fun _ y => y) fun _ _ y => y
      rcases hc with y | y
      · rw [y]; exact nt b u q
      · exact nt c _ y
  refine J.pins_of fun p hp => ?_
  rcases List.mem_cons.mp hp with hp | hp
  · rw [hp]
    exact ⟨eS', hS0, hSL, hSf, hc⟩
  · exact J.pin p (List.mem_append_right _ hp)
/-- what the sleeping generator has handed out: ys behind S, and y -/
def GYL (X : Cx) (pins : List (Addr × Obj)) (σ : L2.St) (a : Addr) (g : Nat) (S : Addr) (SR : List DV → Obj → Prop) (CY : List DV → DV → Hp → Prop) : Protocol := fun _ s₀ v s kap =>
  ∃ (y : DV) (ys : List DV) (H : Hp) (oS : Obj), RelV y.2 v ∧ Inv X pins σ H s ∧ s.heap.IsGen a g ∧ SR ys oS ∧ s₀.heap.get? S = some oS ∧ s.heap.get? S = some oS ∧ CY ys y H ∧
    ∀ s'' : Shared, s''.os = s.os → AllBare s''.gens → (∀ b o, b ≠ S → s.heap.get? b = some o → s''.heap.get? b = some o) → (∃ oS', s''.heap.get? S = some oS' ∧ SR (ys ++ [y]) oS' ∧ ∀ v, oS'.data ≠ .cell v) → kap (.send .none) s''
def GRL (X : Cx) (pins : List (Addr × Obj)) (σ : L2.St) (S : Addr) (SR : List DV → Obj → Prop) (QL : List DV → Hp → Prop) : GenEnd := fun n s₀ r s₁ =>
  r = .ok .next ∧ ∃ ys H oS, Inv X pins σ H s₁ ∧ SR ys oS ∧ s₀.heap.get? S = some oS ∧ s₁.heap.get? S = some oS ∧ QL ys H ∧ H S = none
/-- the reading: CY of each value that is handed out behind others, QL of all at the end -/
def tGl (P : Addr) (CY : List DV → DV → Hp → Prop) (wi : TI) (g : TG) (tt : TT) (te : TE) (vs : List Nat) (QL : List DV → Hp → Prop) (σ : L2.St) (H : Hp) : Prop :=
  wi σ H fun J H1 => GxR.TabG H1 P ∧ ∀ H2, GxR.Tabbed P H1 H2 → ∃ W : Nat → Nat → List DV → Hp → Prop, (∃ m, W 0 m [] H2) ∧ ∀ i m ys H, W i m ys H →
  (J.stop i H ∧ QL ys H) ∨ (J.go i H ∧ ∃ Nx : List DV → Hp → Prop, (∀ ys' H', Nx ys' H' → ∃ m', m' < m ∧ W (i + 1) m' ys' H') ∧ ∀ x H', J.yld i H x H' → g x (wipe σ vs) H' fun σ2 H2 => wipe σ2 vs = wipe σ vs ∧ tt σ2 H2 fun b H3 =>
    if b = true then te σ2 H3 fun y H4 => ∃ d, CY ys (d, y) H4 ∧ Nx (ys ++ [(d, y)]) H4 else Nx ys H3)
theorem seg_genL {elt tg iter : Expr} {ifs : List Expr} {scope : Scope} {pos : Pos} {A : Around} {s3 : Shared} {H3 : Hp} {env : Env} {fp : List Addr} {it a S : Addr} {gno : Nat} {o : Obj} {tn : Nat → Heap → Prop} {J : It} {g : TG} {tt : TT} {te : TE} {vs : List Nat} {W : Nat → Nat → List DV → Hp → Prop} {SR : List DV → Obj → Prop} {CY : List DV → DV → Hp → Prop} {QL : List DV → Hp → Prop}
    (hc : X.calm = true) (I3 : Inv X pins σ H3 s3) (f3 : ∀ b ∈ fp, FpOk X pins H3 b) (T : Turn X.prog X.w X.K tg J fp it tn) (hco : scope.isCoroutine = false) (hes : env.scope = scope) (ho : ∀ v, o.data ≠ .cell v) (hgen : ∀ h : Heap, h.get? a = some o → h.IsGen a gno) (haf : a ∉ fp)
    (hSa : S ≠ a) (hSf : S ∉ fp) (hA : s3.heap.objs.size ≤ S ∧ S ≠ env.locals ∧ ∀ x c, env.cells.lookup x = some c → c ≠ S)
    (pg : PG (genX X A s3 H3 env fp) tg g) (pt : PTs (genX X A s3 H3 env fp) ifs tt) (pe : PE (genX X A s3 H3 env fp) elt te)
    (turn : ∀ i m ys H, W i m ys H → (J.stop i H ∧ QL ys H) ∨ (J.go i H ∧ ∃ Nx : List DV → Hp → Prop, (∀ ys' H', Nx ys' H' → ∃ m', m' < m ∧ W (i + 1) m' ys' H') ∧ ∀ x H', J.yld i H x H' → g x (wipe σ vs) H' fun σ2 H2 => wipe σ2 vs = wipe σ vs ∧ tt σ2 H2 fun b H3 =>
      if b = true then te σ2 H3 fun y H4 => ∃ d, CY ys (d, y) H4 ∧ Nx (ys ++ [(d, y)]) H4 else Nx ys H3)) :
    ∀ (m n : Nat) (s₀ s : Shared), m + 1 ≤ n → (∃ i ys H oS, SR ys oS ∧ s₀.heap.get? S = some oS ∧ Inv (genX X A s3 H3 env fp) [(S, oS), (a, o)] (wipe σ vs) H s ∧ tn i s.heap ∧ (∀ b ∈ fp, H b = none) ∧ W i m ys H) →
      Seg (model X.prog X.w) A (GRL X pins σ S SR QL) (GYL X pins σ a gno S SR CY) n s₀ (.compLoop (.GeneratorExp elt [⟨tg, iter, ifs, 0⟩] scope pos) 0 (.ref it) .none env)
        ((model X.prog X.w).den (.compLoop (.GeneratorExp elt [⟨tg, iter, ifs, 0⟩] scope pos) 0 (.ref it) .none env)) [] s := by
  have out : ∀ {σ' : L2.St} {H' : Hp} {s' : Shared} {ps : List (Addr × Obj)}, Inv (genX X A s3 H3 env fp) ps σ' H' s' → Inv X pins σ H' s' := fun {σ' H' s' ps} I6 =>
    I3.call' (ch := fp) I6.os I6.base I6.hok I6.bare fun b hb => ⟨(f3 b hb).2.2.2.1, (f3 b hb).2.1, (f3 b hb).2.2.2.2.1, (f3 b hb).2.2.2.2.2⟩
  have stat : ∀ {σ' : L2.St} {H' : Hp} {s' : Shared} {oS : Obj}, Inv (genX X A s3 H3 env fp) [(S, oS), (a, o)] σ' H' s' → (∀ b ∈ fp, H' b = none) → ∀ b ∈ fp, FpOk (genX X A s3 H3 env fp) [(S, oS), (a, o)] H' b := fun {σ' H' s' oS} I' hn b hb =>
    ⟨hn b hb, (I'.ok.exf b hb).1, I'.ok.exfs b hb, .inl hb, fun x c e => (I'.ok.exf b hb).2 x c e, fun p hp => by
      have hp : p ∈ ([] : List (Addr × Obj)) ++ [(S, oS), (a, o)] := hp
      have : p = (S, oS) ∨ p = (a, o) := by simpa using hp
      rcases this with rfl | rfl
      · exact fun z => hSf (by rw [show S = b from z]; exact hb)
      · exact fun z => haf (by rw [show a = b from z]; exact hb)⟩
  have isgen : ∀ {σ' : L2.St} {H' : Hp} {s' : Shared} {oS : Obj} {ps : List (Addr × Obj)}, Inv (genX X A s3 H3 env fp) ([(S, oS), (a, o)] ++ ps) σ' H' s' → s'.heap.IsGen a gno := fun {σ' H' s' oS ps} I' => hgen _ (I'.pin (a, o) (by simp)).1
  intro m
  induction m using Nat.strongRecOn with
  | ind m ih =>
    intro n s₀ s hn ⟨i, ys, H5, oS, hSR, hS0, I5, st5, n5, w5⟩
    show Seg _ A _ _ _ s₀ _ ((compTurn (.GeneratorExp elt [⟨tg, iter, ifs, 0⟩] scope pos) 0 (.ref it) .none env).onRaise (leaving env)) [] s
    rw [compTurn_gen, Sem.onRaise_eq_wrap]
    refine seg_bindw (wpAny_standAt ?_)
    rcases turn i m ys H5 w5 with ⟨stop, qq⟩ | ⟨go, Nx, hNx, step⟩
    · have td := T.done (genX X A s3 H3 env fp) rfl rfl rfl hc i [(S, oS), (a, o)] s _ H5 (fun _ _ => False) I5 (stat I5 n5) st5 stop
      refine seg_bindw ?_
      rw [over_genL]
      refine wpAny_mono td (fun r s6 ⟨hr, I6⟩ => ?_) fun _ _ z => z
      subst hr
      exact seg_end (.ok .next) ⟨rfl, ys, H5, oS, out I6, hSR, hS0, (I6.pin (S, oS) (by simp)).1, qq, (I6.pin (S, oS) (by simp)).2.1⟩
    · have ti := T.item (genX X A s3 H3 env fp) rfl rfl rfl hc i [(S, oS), (a, o)] s _ H5 (fun _ _ => False) I5 (stat I5 n5) st5 go
      refine seg_bindw ?_
      rw [over_genL]
      refine wpAny_mono ti (fun r s6 ⟨u, hr, h6⟩ => ?_) fun _ _ z => z
      subst hr
      refine seg_bindw ?_
      rw [over_genL]
      refine wpAny_mono h6 (fun _ s7 ⟨x, H7, I7, r7, y7, st7, n7⟩ => ?_) fun _ _ z => z
      have I7' := I7.pinned (stat I7 n7) (T.obj _ _ st7)
      refine seg_bindw ?_
      rw [over_genL]
      refine wpAny_mono (pg.run _ s7 _ H7 x u _ I7' r7 (step x H7 y7)) (fun _ s8 ⟨σ8, H8, I8, hw8, q8⟩ => ?_) fun _ _ z => z
      refine seg_bindw ?_
      rw [over_genL]
      refine wpAny_mono (pt.run _ s8 σ8 H8 _ I8 q8) (fun b s9 ⟨H9, I9, q9⟩ => ?_) fun _ _ z => z
      have fin : ∀ {s' : Shared} {H' : Hp} {ys' : List DV}, Inv (genX X A s3 H3 env fp) ([(S, oS), (a, o)] ++ pinsAt fp s7.heap) σ8 H' s' → Nx ys' H' → ∃ m', m' < m ∧ ∃ i H', Inv (genX X A s3 H3 env fp) [(S, oS), (a, o)] (wipe σ vs) H' s' ∧ tn i s'.heap ∧ (∀ b ∈ fp, H' b = none) ∧ W i m' ys' H' := fun {s' H' ys'} I' nx => by
        obtain ⟨m', hm, w'⟩ := hNx ys' H' nx
        have pin' : ∀ b ∈ fp, ∀ o, s7.heap.get? b = some o → s'.heap.get? b = some o ∧ H' b = none := fun b hb o e =>
          let z := I'.pin (b, o) (List.mem_append_right _ (List.mem_append_right _ (mem_pinsAt hb e)))
          ⟨z.1, z.2.1⟩
        have hl : (wipe σ vs).length = σ8.length := by rw [← hw8, wipe_length]
        refine ⟨m', hm, i + 1, H', (I'.unpinned (pins := [(S, oS), (a, o)])).weak hl (fun j v e => ?_), T.keep _ _ _ st7 fun b hb o e => (pin' b hb o e).1, fun b hb => ?_, w'⟩
        · rw [← hw8] at e
          exact (wipe_some e).1
        · obtain ⟨o, e, _⟩ := T.obj _ _ st7 b hb
          exact (pin' b hb o e).2
      cases b with
      | false =>
        simp only [Bool.false_eq_true, if_false] at q9 ⊢
        obtain ⟨m', hm, i', H', J'⟩ := fin I9 q9
        exact seg_again rfl (ih m' hm n s₀ s9 (by omega) ⟨i', ys, H', oS, hSR, hS0, J'⟩)
      | true =>
        simp only [if_true] at q9 ⊢
        have hy : ∀ v, yieldOut env v = yieldValue v := fun v => by simp only [yieldOut, hes, hco, Bool.false_eq_true, if_false]
        simp only [hy]
        rw [Sem.bind_eq_wrap', Sem.bind_eq_wrap', Sem.wrap_wrap, Sem.wrap_wrap]
        refine seg_wrap (wpAny_mono (E := fun _ _ => False) ?_ (fun _ _ h => h) fun _ _ z => False.elim z)
        rw [over_genL]
        refine wpAny_mono (pe.run _ s9 σ8 H9 _ I9 q9) (fun z s10 ⟨yv, H10, I10, r10, dv, cy, nx⟩ => ?_) fun _ _ z => z
        obtain ⟨n', rfl⟩ : ∃ n', n = n' + 1 := ⟨n - 1, by omega⟩
        refine seg_at (seg_yield rfl rfl rfl ⟨(dv, yv), ys, H10, oS, r10, out I10, isgen I10, hSR, hS0, (I10.pin (S, oS) (by simp)).1, cy, fun s'' ho hG hk ⟨oS', eS', hSR', hcS'⟩ => ?_⟩)
        obtain ⟨m', hm, i', H', I', t', n', w'⟩ := fin I10 nx
        refine seg_again rfl (ih m' hm _ s'' s'' (by omega) ⟨i', ys ++ [(dv, yv)], H', oS', hSR', eS', ?_, ?_, n', w'⟩)
        · refine woken (X := genX X A s3 H3 env fp) (ip := [(a, o)]) (fun p hp => by cases hp) (fun p hp => ?_) hA I' ho hG hk eS' hcS'
          rw [List.mem_singleton.mp hp]; exact Ne.symm hSa
        · refine T.keep _ _ _ t' fun b hb o e => hk b o (fun z => hSf (z ▸ hb)) e
/-- the generator is made; Q': what follows of it -/
theorem gen_madeL {k : Nat} {elt tg iter : Expr} {ifs : List Expr} {scope : Scope} {own : List (Str × Nat)} {gpos : Pos} {wi : TI} {g : TG} {tt : TT} {te : TE} {c P : Addr} {SR : List DV → Obj → Prop} {CY : List DV → DV → Hp → Prop} {QL : List DV → Hp → Prop} {Q' : Value → Shared → Prop}
    (hr : Room (k + 3) X.A) (hc : X.calm = true) (hN : X.N.Nodup) (TB : GxR.TabB X.base X.mg c P) (hcode : X.env.code = .ref c) (hi : PI X tg iter wi) (ok : BlkOk X.N X.env.scope scope own) (hcell : ∀ y ∈ scope.names, y.2 ≠ .cell) (hdot : scope.names.lookup (".0" : Str) = some NameKind.local) (hco : scope.isCoroutine = false)
    (hpg : ∀ (A : Around) (s : Shared) (H : Hp) (C : Addr) (code : Value) (fp : List Addr), Room k (A.deeper (genEnv scope (cloFrom X.env.cells scope.names []) C code builtinsNs X.env)) → PG (genX X A s H (genEnv scope (cloFrom X.env.cells scope.names []) C code builtinsNs X.env) fp) tg g)
    (hpt : ∀ (A : Around) (s : Shared) (H : Hp) (C : Addr) (code : Value) (fp : List Addr), Room k (A.deeper (genEnv scope (cloFrom X.env.cells scope.names []) C code builtinsNs X.env)) → PTs (genX X A s H (genEnv scope (cloFrom X.env.cells scope.names []) C code builtinsNs X.env) fp) ifs tt)
    (hpe : ∀ (A : Around) (s : Shared) (H : Hp) (C : Addr) (code : Value) (fp : List Addr), Room k (A.deeper (genEnv scope (cloFrom X.env.cells scope.names []) C code builtinsNs X.env)) → PE (genX X A s H (genEnv scope (cloFrom X.env.cells scope.names []) C code builtinsNs X.env) fp) elt te)
    (hs : ∀ v, genFold iter X.env v = pure v) (I : Inv X pins σ H s) (h : tGl P CY wi g tt te (own.map (·.2)) QL σ H)
    (hQ : ∀ (a : Addr) (gno n : Nat) (s5 : Shared), s5.heap.IsGen a gno → s5.heap.NoLimit → a < s5.heap.objs.size → (∀ S, s5.heap.objs.size ≤ S → X.s_0.heap.objs.size ≤ S ∧ S ≠ X.env.locals ∧ (∀ x c, X.env.cells.lookup x = some c → c ≠ S) ∧ ∀ p ∈ X.pn ++ pins, p.1 ≠ S) → (∃ gs, s5.gens[gno]? = some gs ∧ ∀ (A : Around) (S : Addr) (oS : Obj) (h6 : Heap) (t6 : Nat), Room (k + 1) A → A.frames = some X.stack → s5.heap.objs.size ≤ S → (∀ b o, s5.heap.get? b = some o → h6.get? b = some o) → h6.get? S = some oS → SR [] oS → (∀ v, oS.data ≠ .cell v) →
      gs.Goes (model X.prog X.w) A (GRL X pins σ S SR QL) (GYL X pins σ a gno S SR CY) n (.send .none) ({ s5 with heap := h6, toks := t6 }.setGen gno .running)) → Q' (.ref a) s5) :
    wpAny (model X.prog X.w) X.A (eval (.GeneratorExp elt [⟨tg, iter, ifs, 0⟩] scope gpos) X.env) Q' X.xe s := by
  have hfree : ∀ y ∈ scope.names, y.2 = .free → ∃ c, X.env.cells.lookup y.1 = some c := fun y hy e => by
    rcases ok.free y hy e with k | k
    · exact I.ok.has _ (.inl k)
    · exact I.ok.has _ (.inr k)
  refine wpAny_GeneratorExp_make hco (closure_ok hfree) hcell hdot ok.kind (by have := hr.dp; omega) ?_ hs
  refine thn (hi.run pins s σ H _ I h) fun xv s1 hx => thn hx fun itv s2 h2 => ?_
  obtain ⟨it, fp, tn, J, H2, e, I2, T, st2, f2, ⟨ps, hP, ht⟩, q⟩ := h2
  subst e
  refine ⟨I2.nolimit, ?_⟩
  have hPs : s2.heap.get? P = some { cls := .none, data := .fields ps } := I2.hok P _ hP
  have hPlt : P < s2.heap.objs.size := Heap.lt_size hPs
  have cd : PySem.W.CodeHd s2.heap c P := TB.code.keeps fun b u e => I2.bk b u e
  have Pfp : P ∉ fp := fun z => by rw [(f2 P z).1] at hP; cases hP
  have cont : ∀ (code : Value) (h3 : Heap) (tk : Nat) (more : Array Value), Heap.ExtBut P s2.heap h3 → s2.heap.objs.size ≤ h3.objs.size → h3.get? P = some { cls := .none, data := .fields (ps ++ more) } → TriplesOk (ps ++ more).toList →
      wpAny (model X.prog X.w) X.A (builtinsFor X.env.globals X.env.builtins) (fun bi s₄ =>
        ∀ h', h'.Ns s₄.heap.objs.size (fun y => if y = (".0" : Str) then some (.ref it) else none) → Heap.SameBut s₄.heap.objs.size (s₄.heap.push { cls := .type "frame", data := .dict #[] }) h' →
          Q' (.ref h'.objs.size) { s₄ with
            gens := s₄.gens.push (.fresh (.compStart (.GeneratorExp elt [⟨tg, iter, ifs, 0⟩] scope gpos) 0 (.ref it) .none (genEnv scope (cloFrom X.env.cells scope.names []) s₄.heap.objs.size code bi X.env))),
            toks := s₄.toks + 1 + 1 + 1,
            heap := h'.push { cls := .type "generator", data := .fields #[.int s₄.gens.size 0, .str "<genexpr>" (s₄.toks + 1), .str (X.env.qual ++ "<genexpr>") (s₄.toks + 1 + 1)] } }) X.xe { s2 with heap := h3, toks := tk } := by
    intro code h3 tk more hx hsz hP3 ht3
    obtain ⟨bm, ob, e1, e2, e3, e4, e5, e6, e7, e8⟩ := TB.bm
    have keep3 : ∀ b u, b ≠ P → s2.heap.get? b = some u → h3.get? b = some u := fun b u hb e => hx b u hb e
    have I3 : Inv X pins σ (upd H2 P (.tbl (ps ++ more))) { s2 with heap := h3, toks := tk } := GxR.inv_tab (g' := s2.gens) (d' := s2.drawn) (t' := tk) I2 hP keep3 hP3 I2.bare
    refine wpAny_builtinsFor (m := X.mg) (by rw [I3.ok.glob]; exact I3.mod.glob.keeps I3.bk) e1 e2 (keep3 _ _ e4 (I2.bk _ _ e5)) e6 e7 e8 ?_
    intro h' hn hs'
    obtain ⟨W, ⟨m0, w0⟩, turn⟩ := q (upd H2 P (.tbl (ps ++ more))) ⟨⟨_, upd_same, ht3⟩, fun b hb => upd_ne hb⟩
    have f3 : ∀ b ∈ fp, FpOk X pins (upd H2 P (.tbl (ps ++ more))) b ∧ b < h3.objs.size := fun b hb => by
      have hbP : b ≠ P := fun z => Pfp (z ▸ hb)
      obtain ⟨o, eo, _⟩ := T.obj _ _ st2 b hb
      exact ⟨⟨by rw [upd_ne hbP]; exact (f2 b hb).1, (f2 b hb).2⟩, Nat.lt_of_lt_of_le (Heap.lt_size eo) hsz⟩
    have sz : h'.objs.size = h3.objs.size + 1 := by rw [hs'.1, Heap.size_push]
    generalize hgo : ({ cls := .type "generator", data := .fields #[.int s2.gens.size 0, .str "<genexpr>" (tk + 1), .str (X.env.qual ++ "<genexpr>") (tk + 1 + 1)] } : Obj) = gob
    have hgd : ∀ v, gob.data ≠ .cell v := fun v z => by rw [← hgo] at z; cases z
    have hgf : gob.isFreed = false := by rw [← hgo]; rfl
    have hig : ∀ h : Heap, h.get? h'.objs.size = some gob → h.IsGen h'.objs.size s2.gens.size := fun h e => ⟨_, _, _, e, by rw [← hgo], by rw [← hgo], by rw [← hgo]⟩
    generalize hgs : GenState.fresh (.compStart (.GeneratorExp elt [⟨tg, iter, ifs, 0⟩] scope gpos) 0 (.ref it) .none (genEnv scope (cloFrom X.env.cells scope.names []) h3.objs.size code builtinsNs X.env)) = gs0
    have hsg : (s2.gens.push gs0)[s2.gens.size]? = some gs0 := Array.getElem?_push_size ..
    have hbare : AllBare (s2.gens.push gs0) := I2.bare.push (by rw [← hgs]; rfl)
    have nl : (h'.push gob).NoLimit := by
      refine I3.nolimit.keeps fun b o e => Heap.get?_push_of_some _ (hs'.extBut b o (Nat.ne_of_lt (Heap.lt_size e)) (Heap.get?_push_of_some _ e))
    have hSX : ∀ S, (h'.push gob).objs.size ≤ S → X.s_0.heap.objs.size ≤ S ∧ S ≠ X.env.locals ∧ (∀ x c, X.env.cells.lookup x = some c → c ≠ S) ∧ ∀ p ∈ X.pn ++ pins, p.1 ≠ S := fun S hS => by
      have hS : h3.objs.size ≤ S := by
        rw [Heap.size_push, show h'.objs.size = h3.objs.size + 1 from sz] at hS
        exact Nat.le_trans (Nat.le_add_right _ 2) hS
      have z := I3.fpOk (b := S) (H' := fun _ => none) hS rfl
      exact ⟨Nat.le_trans I3.sz hS, z.2.1, z.2.2.2.2.1, z.2.2.2.2.2⟩
    refine hQ h'.objs.size s2.gens.size (m0 + 1) _ (hig _ (Heap.get?_push_size _ hgf)) nl (by show _ < (h'.push gob).objs.size; rw [Heap.size_push]; exact Nat.lt_succ_self _) hSX ⟨gs0, hsg, fun A' S oS h6 t6 hrA hfA hSz hk6 hS6 hSR0 hScell => ?_⟩
    have hSz : h'.objs.size + 1 ≤ S := by have : (h'.push gob).objs.size ≤ S := hSz; rwa [Heap.size_push] at this
    have sz3 : h'.objs.size = h3.objs.size + 1 := sz
    have hS3 : h3.objs.size ≤ S := by rw [sz3] at hSz; exact Nat.le_trans (Nat.le_of_lt (Nat.lt_succ_self _)) (Nat.le_of_lt hSz)
    have roomy : Room k (A'.deeper (genEnv scope (cloFrom X.env.cells scope.names []) h3.objs.size code builtinsNs X.env)) := Room.deeper hrA _
    have I4 := gen_start (A := A') (code := code) (it := .ref it) (o := gob) (G := (s2.gens.push gs0).setIfInBounds s2.gens.size .running) (tk := tk + 1 + 1 + 1) I3 ok hcell hN f3 hrA.hd hfA hn hs' (by
      have := allBare_setGen (s := { s2 with gens := s2.gens.push gs0 }) (g := s2.gens.size) (x := .running) hbare rfl
      exact this) hgd hgf
    have I6 := inv_gens (h' := h6) (G := (s2.gens.push gs0).setIfInBounds s2.gens.size .running) (t := t6) (d := s2.drawn) I4 hk6 (by
      have := allBare_setGen (s := { s2 with gens := s2.gens.push gs0 }) (g := s2.gens.size) (x := .running) hbare rfl
      exact this)
    have fS := I4.fpOk (b := S) (H' := upd H2 P (.tbl (ps ++ more))) (by show (h'.push gob).objs.size ≤ S; rw [Heap.size_push]; exact hSz) (I4.hok.fresh (by show (h'.push gob).objs.size ≤ S; rw [Heap.size_push]; exact hSz))
    have kp6 : ∀ b ∈ fp, ∀ o, s2.heap.get? b = some o → h6.get? b = some o := fun b hb o e => by
      have hbP : b ≠ P := fun z => Pfp (z ▸ hb)
      have e3 := keep3 b o hbP e
      exact hk6 _ _ (Heap.get?_push_of_some _ (hs'.extBut b o (Nat.ne_of_lt (Heap.lt_size e3)) (Heap.get?_push_of_some _ e3)))
    rw [← hgs]
    refine ⟨rfl, seg_genS T (T.keep _ _ _ st2 kp6) ?_⟩
    refine seg_genL (X := X) (fp := fp) (o := gob) hc I3 (fun b hb => (f3 b hb).1) T hco rfl hgd hig (fun z => ?_) (Nat.ne_of_gt hSz) (fun z => ?_) ⟨hS3, fS.2.1, fS.2.2.2.2.1⟩ (hpg _ _ _ _ _ _ roomy) (hpt _ _ _ _ _ _ roomy) (hpe _ _ _ _ _ _ roomy) turn m0 (m0 + 1) _ _ (Nat.le_refl _) ⟨0, [], _, oS, hSR0, hS6, ?_, T.keep _ _ _ st2 kp6, fun b hb => (f3 b hb).1.1, w0⟩
    · exact absurd (f3 _ z).2 (by rw [sz]; exact Nat.not_lt.mpr (Nat.le_succ _))
    · exact absurd (f3 _ z).2 (Nat.not_lt.mpr hS3)
    · have I6' := I6.pins_of (pins' := [(S, oS), (h'.objs.size, gob)]) fun p hp => by
        rcases List.mem_cons.mp hp with rfl | hp
        · exact ⟨hS6, fS.1, fS.2.1, fS.2.2.1, hScell⟩
        · exact I6.pin p (List.mem_append_right _ hp)
      rw [hgs]
      exact I6'
  cases hf : codeAmong gpos ps.toList with
  | none =>
    refine wpAny_genexprCodeX hcode (cd.code hPs ht) (cd.tab hPs) hf fun c' h' tk hx hge hlt hco' _ htab' _ => ?_
    obtain ⟨o1, vs, f1, tf, fl, tg, inF, tx, tt, op, _, _, _, _, _, _, _, _, _, htr, _⟩ := hco'
    exact cont _ h' tk _ hx (Nat.le_trans hge (Nat.le_of_lt hlt)) htab'.2 htr
  | some cv =>
    refine wpAny_genexprCode_hit hcode (cd.code hPs ht) hf ?_
    have := cont cv s2.heap s2.toks #[] (Heap.ExtBut.refl _ _) (Nat.le_refl _) (by rw [Array.append_empty]; exact hPs) (by rw [Array.append_empty]; exact ht)
    exact this
end
end VL

/-! the consumers: tuple, sum, min of a generator expression -/
namespace VL
open PySem PySem.Spec PyProof.Rows L2
section
variable {X : Cx} {pins : List (Addr × Obj)} {σ : L2.St} {H : Hp} {s : Shared}
variable {SR : List DV → Obj → Prop} {CY : List DV → DV → Hp → Prop} {QL : List DV → Hp → Prop} {a S : Addr} {g : Nat}
/-- the generator sleeps; m turns at most -/
def Asleep (X : Cx) (pins : List (Addr × Obj)) (σ : L2.St) (a : Addr) (g : Nat) (S : Addr) (SR : List DV → Obj → Prop) (CY : List DV → DV → Hp → Prop) (QL : List DV → Hp → Prop) (A : Around) (m : Nat) (s : Shared) : Prop :=
  s.heap.IsGen a g ∧ s.heap.NoLimit ∧ ∃ gs, s.gens[g]? = some gs ∧ gs.Goes (model X.prog X.w) A (GRL X pins σ S SR QL) (GYL X pins σ a g S SR CY) m (.send .none) (s.setGen g .running)
def Next (m : Nat) (P : Nat → Prop) : Prop := match m with
  | 0 => False
  | k + 1 => P k
theorem pull {A : Around} {m : Nat} {Q : Option Value → Shared → Prop} {E : Value → Shared → Prop} {oS : Obj} (hh : A.handled = none) (hd : A.depth < recursionLimit) (hSa : S ≠ a) (hSc : S ≠ cStatics) (hs : Asleep X pins σ a g S SR CY QL A.in1 m s) (hS : s.heap.get? S = some oS)
    (hY : ∀ (v : Value) (y : DV) (ys : List DV) (H : Hp) (s₁ : Shared), RelV y.2 v → Inv X pins σ H s₁ → SR ys oS → CY ys y H → s₁.heap.get? S = some oS →
      (∀ (h'' : Heap) (t'' : Nat), (∀ b o, b ≠ S → s₁.heap.get? b = some o → h''.get? b = some o) → (∃ oS', h''.get? S = some oS' ∧ SR (ys ++ [y]) oS' ∧ ∀ v, oS'.data ≠ .cell v) → Next m fun k => Asleep X pins σ a g S SR CY QL A.in1 k { s₁ with heap := h'', toks := t'' }) → Q (some v) s₁)
    (hE : ∀ (ys : List DV) (H : Hp) (s₁ : Shared), Inv X pins σ H s₁ → SR ys oS → QL ys H → H S = none → s₁.heap.get? S = some oS → Q none s₁) :
    wpAny (model X.prog X.w) A (pyNext (.ref a)) Q E s := by
  obtain ⟨hg, hl, gs, hgs, hgo⟩ := hs
  have hgl : g < s.gens.size := (Array.getElem?_eq_some_iff.mp hgs).1
  refine GenW.wpAny_gsz (n := g + 1) hgl (wpAny_pyNext_genexpQ (A := A) (P := fun _ s₀ s₁ => ∃ ys H oS, Inv X pins σ H s₁ ∧ SR ys oS ∧ s₀.heap.get? S = some oS ∧ s₁.heap.get? S = some oS ∧ QL ys H ∧ H S = none) hh hl hd hg hgs hgo (fun v s₁ gs' hb hv => ?_) (fun s₁ hp h' hk => ?_))
  · intro hsz
    obtain ⟨y, ys, H1, oS1, rv, I1, hg1, hSR, hS0, hS1, cy, hk⟩ := hv
    have e : oS1 = oS := by
      have hS0 : s.heap.get? S = some oS1 := hS0
      rw [hS] at hS0; injection hS0 with h; exact h.symm
    subst e
    have I1' := inv_gens (s := s₁) (h' := s₁.heap) (G := (s₁.setGen g gs').gens) (t := s₁.toks) (d := s₁.drawn) I1 (fun _ _ e => e) (allBare_setGen I1.bare hb)
    refine hY v y ys H1 _ rv I1' hSR cy hS1 fun h'' t'' hkeep hnew => ?_
    have hsz1 : g < s₁.gens.size := by
      have q : (s₁.setGen g gs').gens.size = s₁.gens.size := GenW.setGen_size _ _ _
      have hsz' : g + 1 ≤ (s₁.setGen g gs').gens.size := hsz
      omega
    cases m with
    | zero => exact hk { s₁ with heap := h'', toks := t'' } rfl I1.bare hkeep hnew
    | succ k =>
      refine ⟨?_, ?_, gs', setGen_at hsz1, ?_⟩
      · obtain ⟨o, nm, qn, ho, r⟩ := hg1
        exact ⟨o, nm, qn, hkeep a o (Ne.symm hSa) ho, r⟩
      · obtain ⟨mc, hns, hnn⟩ := I1.nolimit
        exact ⟨mc, hns.at' fun o e => hkeep _ o (Ne.symm hSc) e, hnn⟩
      · exact hk _ rfl (allBare_setGen (s := { s₁.setGen g gs' with heap := h'', toks := t'' }) (allBare_setGen I1.bare hb) rfl) hkeep hnew
  · intro hsz
    obtain ⟨ys, H1, oS1, I1, hSR, hS0, hS1, q, hn⟩ := hp
    have e : oS1 = oS := by
      have hS0 : s.heap.get? S = some oS1 := hS0
      rw [hS] at hS0; injection hS0 with h; exact h.symm
    subst e
    exact hE ys H1 _ (inv_gens (s := s₁) (h' := h') (G := (s₁.setGen g .finished).gens) (t := s₁.toks) (d := s₁.drawn) I1 hk (allBare_setGen I1.bare rfl)) hSR q hn (hk _ _ hS1)
/-! ### a list is filled -/
def srL (ys : List DV) (o : Obj) : Prop := ∃ acc c, o = lstObj acc c ∧ Vals (ys.map (·.2)) acc.toList
def cyL (ys : List DV) (_ : DV) (_ : Hp) : Prop := ys.length < sizeLine
theorem ext_loop {A : Around} {R : Result → Shared → Prop} {res : Value} (hh : A.handled = none) (hd : A.depth < recursionLimit) (hSa : S ≠ a) (hSc : S ≠ cStatics)
    (hend : ∀ ys H s₁ acc c, Inv X pins σ H s₁ → Vals (ys.map (·.2)) acc.toList → QL ys H → s₁.heap.get? S = some (lstObj acc c) → R (.ok (.ret res)) s₁) :
    ∀ (m : Nat) (s : Shared), Asleep X pins σ a g S srL cyL QL A.in1.in1 m s → (∃ acc c, s.heap.get? S = some (lstObj acc c)) → codeAny (model X.prog X.w) A (.builtin "list.extend.loop" ⟨[.ref S, .ref a, res], []⟩) R s := by
  intro m
  induction m using Nat.strongRecOn with
  | ind m ih =>
    intro s hs ⟨acc, c, hS⟩
    refine codeAny_builtin F.entry_extend_loop ?_
    rw [Around.under_plainId F.plain_extend_loop _]
    show wpAny _ A.in1 (pyNext (.ref a) >>= _) _ _ s
    refine wpAny_bind (pull (A := A.in1) hh hd hSa hSc hs hS (fun v y ys H1 s₁ rv I1 hSR cy hS1 nxt => ?_) fun ys H1 s₁ I1 hSR q hn hS1 => ?_)
    · obtain ⟨acc', c', e, hV⟩ := hSR
      cases e
      have hlen : acc.size < sizeLine := by
        have := hV.length
        simp only [List.length_map, Array.length_toList] at this
        rw [← this]; exact cy
      show wpAny _ A.in1 (updateSeq S (·.push v) >>= _) _ _ _
      refine wpAny_bind ?_
      have nx := nxt (s₁.heap.update S (Obj.mapSeq (·.push v))) s₁.toks (fun b o hb e => (Heap.get?_update_other _ _ (Ne.symm hb)).trans e) ⟨_, Heap.get?_update_self _ hS1 rfl, ⟨_, _, rfl, by rw [List.map_append, Array.toList_push]; exact hV.append (.cons rv .nil)⟩, fun v z => by cases z⟩
      cases m with
      | zero => exact nx.elim
      | succ k =>
        refine wpAny_updateSeq hS1 rfl (wpAny_pure ⟨plainId_quiet F.plain_extend_loop _, ?_⟩) (Nat.le_of_lt hlen) (by show (acc.push v).size ≤ sizeLine + 1; rw [Array.size_push]; omega)
        exact ih k (Nat.lt_succ_self _) _ nx ⟨_, _, Heap.get?_update_self _ hS1 rfl⟩
    · obtain ⟨acc', c', e, hV⟩ := hSR
      cases e
      exact wpAny_pure (hend ys H1 s₁ acc c I1 hV q hS1)
/-! ### a sum -/
def sumV (ys : List DV) : Int := (ys.map fun q => match q.2 with | .int i => i | _ => 0).sum
def srS (ys : List DV) (o : Obj) : Prop := ∃ t c, o = lstObj #[.int (sumV ys) t] c
def cyS (_ : List DV) (y : DV) (_ : Hp) : Prop := ∃ i, y.2 = .int i
theorem sumV_snoc (ys : List DV) (y : DV) (i : Int) (h : y.2 = .int i) : sumV (ys ++ [y]) = sumV ys + i := by
  unfold sumV
  rw [List.map_append, List.sum_append]
  simp [h]
set_option maxHeartbeats 2000000 in
theorem sum_loop {A : Around} {R : Result → Shared → Prop} (hh : A.handled = none) (hd : A.depth < recursionLimit) (hSa : S ≠ a) (hSc : S ≠ cStatics)
    (hend : ∀ ys H s₁ t, Inv X pins σ H s₁ → QL ys H → R (.ok (.ret (.int (sumV ys) t))) s₁) :
    ∀ (m : Nat) (s : Shared) (st : Int), (st = 0 ∨ st = 2) → Asleep X pins σ a g S srS cyS QL A.in1.in1 m s → (∃ z t c, s.heap.get? S = some (lstObj #[.int z t] c)) → codeAny (model X.prog X.w) A (.builtin "sum.loop" ⟨[.ref a, .ref S, rawInt st, rawInt 0], []⟩) R s := by
  intro m
  induction m using Nat.strongRecOn with
  | ind m ih =>
    intro s st hst2 hs ⟨z, t0, c0, hS⟩
    refine codeAny_builtin F.entry_sum_loop ?_
    rw [Around.under_plainId F.plain_sum_loop _]
    show wpAny _ A.in1 (seqItems? (.ref S) >>= _) _ _ s
    refine wpAny_bind (wpAny_seqItems hS rfl ?_)
    show wpAny _ A.in1 (tryCatch (pyNext (.ref a)) _ >>= _) _ _ s
    refine wpAny_bind (wpAny_tryCatch (pull (A := A.in1) hh hd hSa hSc hs hS (fun v y ys H1 s₁ rv I1 hSR cy hS1 nxt => ?_) fun ys H1 s₁ I1 hSR q hn hS1 => ?_))
    · obtain ⟨t1, c1, e⟩ := hSR
      cases e
      obtain ⟨y1, y2⟩ := y
      obtain ⟨i, hi⟩ := cy
      have hi : y2 = .int i := hi
      subst hi
      obtain ⟨t, rfl⟩ : ∃ t, v = .int i t := rv
      have go : ∀ (h : Heap) (tok tk : Nat) (st' : Int), (st' = 0 ∨ st' = 2) → (∀ b o, b ≠ S → s₁.heap.get? b = some o → h.get? b = some o) → (∃ c, h.get? S = some (lstObj #[.int (sumV ys + i) tok] c)) → codeAny (model X.prog X.w) A (.builtin "sum.loop" ⟨[.ref a, .ref S, rawInt st', rawInt 0], []⟩) R { s₁ with heap := h, toks := tk } := fun h tok tk st' hst' hk ⟨c, hc⟩ => by
        have nx := nxt h tk hk ⟨_, hc, ⟨tok, c, by rw [sumV_snoc ys _ i rfl]⟩, fun v z => by cases z⟩
        cases m with
        | zero => exact nx.elim
        | succ k => exact ih k (Nat.lt_succ_self _) _ st' hst' nx ⟨_, _, _, hc⟩
      rcases hst2 with rfl | rfl
      · show wpAny _ A.in1 (if (_ : Bool) = true then (mkInt (sumV ys + i) >>= _) else _) _ _ _
        split
        · refine wpAny_bind (wpAny_mkInt ?_)
          show wpAny _ A.in1 (updateSeq S (fun _ => #[.int (sumV ys + i) s₁.toks]) >>= _) _ _ _
          refine wpAny_bind ?_
          refine wpAny_updateSeq hS1 rfl (wpAny_pure ⟨plainId_quiet F.plain_sum_loop _, ?_⟩)
          exact go _ _ _ 0 (.inl rfl) (fun b o hb e => (Heap.get?_update_other _ _ (Ne.symm hb)).trans e) ⟨_, Heap.get?_update_self _ hS1 rfl⟩
        · refine wpAny_bind (wpAny_rule ?_)
          refine wpAny_bind (wpAny_attempt (wpAny_holding (wpAny_add_int ?_)))
          show wpAny _ A.in1 (updateSeq S (fun _ => #[.int (sumV ys + i) s₁.toks]) >>= _) _ _ _
          refine wpAny_bind (wpAny_updateSeq hS1 rfl ?_)
          have hS₂ := Heap.get?_update_self (Obj.mapSeq fun _ => #[Value.int (sumV ys + i) s₁.toks]) hS1 rfl
          refine wpAny_bind (wpAny_letGo ?_)
          refine wpAny_bind (wpAny_updateSeq hS₂ rfl (wpAny_pure ⟨plainId_quiet F.plain_sum_loop _, ?_⟩))
          exact go _ _ _ 2 (.inr rfl) (fun b o hb e => (Heap.get?_update_other _ _ (Ne.symm hb)).trans ((Heap.get?_update_other _ _ (Ne.symm hb)).trans e)) ⟨_, Heap.get?_update_self _ hS₂ rfl⟩
      · show wpAny _ A.in1 ((holding [Value.int i t] (binaryOp .Add (.int (sumV ys) t0) (.int i t))).attempt >>= _) _ _ _
        refine wpAny_bind (wpAny_attempt (wpAny_holding (wpAny_add_int ?_)))
        show wpAny _ A.in1 (updateSeq S (fun _ => #[.int (sumV ys + i) s₁.toks]) >>= _) _ _ _
        refine wpAny_bind (wpAny_updateSeq hS1 rfl ?_)
        have hS₂ := Heap.get?_update_self (Obj.mapSeq fun _ => #[Value.int (sumV ys + i) s₁.toks]) hS1 rfl
        refine wpAny_bind (wpAny_letGo ?_)
        refine wpAny_bind (wpAny_updateSeq hS₂ rfl (wpAny_pure ⟨plainId_quiet F.plain_sum_loop _, ?_⟩))
        exact go _ _ _ 2 (.inr rfl) (fun b o hb e => (Heap.get?_update_other _ _ (Ne.symm hb)).trans ((Heap.get?_update_other _ _ (Ne.symm hb)).trans e)) ⟨_, Heap.get?_update_self _ hS₂ rfl⟩
    · obtain ⟨t1, c1, e⟩ := hSR
      cases e
      exact wpAny_pure (hend ys H1 s₁ _ I1 q)
end
end VL

namespace VL
open PySem PySem.Spec PyProof.Rows L2
open AutoSeq1 (wpAny_loadPart')
open PySem.W (minD maxD AlikeAll)
section
variable {X : Cx} {pins : List (Addr × Obj)} {σ : L2.St} {H : Hp} {s : Shared}
variable {SR : List DV → Obj → Prop} {CY : List DV → DV → Hp → Prop} {QL : List DV → Hp → Prop} {a S : Addr} {g : Nat}
/-- S, which nobody tracks, may change -/
theorem inv_S {s' : Shared} (hA : X.s_0.heap.objs.size ≤ S ∧ S ≠ X.env.locals ∧ (∀ x c, X.env.cells.lookup x = some c → c ≠ S) ∧ ∀ p ∈ X.pn ++ pins, p.1 ≠ S) (hS0 : H S = none) (I0 : Inv X pins σ H s) (ho : s'.os = s.os) (hg : AllBare s'.gens) (hk : ∀ b o, b ≠ S → s.heap.get? b = some o → s'.heap.get? b = some o) : Inv X pins σ H s' := by
  have nt : ∀ b u, H b = some u → b ≠ S := fun b u q hb => by rw [hb, hS0] at q; cases q
  obtain ⟨hh, g, d, t, o⟩ := s'
  have ho : o = s.os := ho
  subst ho
  have nc : ∀ b, b ∉ [S] → b ≠ S := fun b hb e => hb (by rw [e]; exact List.mem_singleton.mpr rfl)
  refine I0.step (g' := g) (t' := t) (d' := d) (ch := [S]) (fun b hb => ?_)
    (fun b ob _ _ hc q _ => hk b ob (nc b hc) q) (fun b ob _ _ hc q _ => ⟨ob.slots, hk b ob (nc b hc) q⟩) (fun _ _ _ _ n => n) (fun b ob hc q => ⟨ob, hk b ob (nc b hc) q⟩)
    (fun _ _ q => q) (fun _ _ _ q => q) (fun b ps q => ⟨#[], by rw [q]; simp⟩) (fun m hm => ?_) (fun b u q => ?_) hg
  · rw [List.mem_singleton.mp hb]
    exact ⟨.inr hA.1, hA.2.1, hA.2.2.1, hA.2.2.2⟩
  · obtain ⟨ob, es, ep, ho, r⟩ := hm
    exact ⟨ob, es, ep, hk _ ob (Ne.symm hA.2.1) ho, r⟩
  · refine (I0.hok b u q).stay (fun c v hc y => hk c v ?_ y) (fun _ y => y) fun _ _ y => y
    rcases hc with y | y
    · rw [y]; exact nt b u q
    · exact nt c _ y
/-! ### the least -/
/-- the best so far: its datum is f of all data, and it is one of them -/
def srM (f : PyData → List PyData → PyData) (ys : List DV) (o : Obj) : Prop := (ys = [] ∧ ∃ c, o = lstObj #[] c) ∨ ∃ x r q bv c, ys = x :: r ∧ q ∈ ys ∧ q.1 = f x.1 (r.map (·.1)) ∧ RelV q.2 bv ∧ o = lstObj #[bv, bv] c
def cyM (K : PySem.W.Frag) (ys : List DV) (y : DV) (H : Hp) : Prop := ∃ F, Same F H ∧ (∀ p ∈ ys ++ [y], Has K F p.1 p.2) ∧ MmOk ((ys ++ [y]).map (·.1))
theorem minD_snoc (x : PyData) (r : List PyData) (y : PyData) : minD x (r ++ [y]) = if PySem.W.dataLt y (minD x r) then y else minD x r := by
  unfold minD; rw [List.foldl_append]; rfl
theorem maxD_snoc (x : PyData) (r : List PyData) (y : PyData) : maxD x (r ++ [y]) = if PySem.W.dataLt (maxD x r) y then y else maxD x r := by
  unfold maxD; rw [List.foldl_append]; rfl
set_option maxHeartbeats 2000000 in
theorem min_loop {A : Around} {R : Result → Shared → Prop} (hh : A.handled = none) (hd : A.depth < recursionLimit) (hu : A.units + 65 < cLine) (hSa : S ≠ a) (hSc : S ≠ cStatics) (hA : X.s_0.heap.objs.size ≤ S ∧ S ≠ X.env.locals ∧ (∀ x c, X.env.cells.lookup x = some c → c ≠ S) ∧ ∀ p ∈ X.pn ++ pins, p.1 ≠ S)
    (hne : ∀ ys H, QL ys H → ys ≠ [])
    (hend : ∀ x r q bv H s₁, Inv X pins σ H s₁ → QL (x :: r) H → q ∈ x :: r → q.1 = minD x.1 (r.map (·.1)) → RelV q.2 bv → R (.ok (.ret bv)) s₁) :
    ∀ (m : Nat) (s : Shared), Asleep X pins σ a g S (srM minD) (cyM X.K) QL A.in1.in1 m s → (∃ ys oS, s.heap.get? S = some oS ∧ srM minD ys oS) → codeAny (model X.prog X.w) A (.builtin "min.loop" ⟨[.ref a, .none, .ref S], []⟩) R s := by
  have hname : (toString "min" ++ toString ".loop" : String) = "min.loop" := by decide
  intro m
  induction m using Nat.strongRecOn with
  | ind m ih =>
    intro s hs ⟨ys0, oS, hS, hSR0⟩
    have go : ∀ {ys : List DV} {y : DV} {s₁ : Shared} (h : Heap) (t : Nat), (∀ (h'' : Heap) (t'' : Nat), (∀ b o, b ≠ S → s₁.heap.get? b = some o → h''.get? b = some o) → (∃ oS', h''.get? S = some oS' ∧ srM minD (ys ++ [y]) oS' ∧ ∀ v, oS'.data ≠ .cell v) → Next m fun k => Asleep X pins σ a g S (srM minD) (cyM X.K) QL A.in1.in1 k { s₁ with heap := h'', toks := t'' }) →
        (∀ b o, b ≠ S → s₁.heap.get? b = some o → h.get? b = some o) → (∃ arr c, h.get? S = some (lstObj arr c) ∧ srM minD (ys ++ [y]) (lstObj arr c)) → codeAny (model X.prog X.w) A (.builtin "min.loop" ⟨[.ref a, .none, .ref S], []⟩) R { s₁ with heap := h, toks := t } := fun {ys y s₁} h t nxt hk ⟨arr, c, h1, h2⟩ => by
      have nx := nxt h t hk ⟨_, h1, h2, fun v z => by cases z⟩
      cases m with
      | zero => exact nx.elim
      | succ k => exact ih k (Nat.lt_succ_self _) _ nx ⟨_, _, h1, h2⟩
    refine codeAny_builtin F.entry_min_loop ?_
    rw [Around.under_plainId F.plain_min_loop _]
    show wpAny _ A.in1 (seqItems? (.ref S) >>= _) _ _ s
    rcases hSR0 with ⟨_, c, rfl⟩ | ⟨_, _, _, bv, c, _, _, _, _, rfl⟩
    · refine wpAny_bind (wpAny_seqItems hS rfl ?_)
      show wpAny _ A.in1 (tryCatch (pyNext (.ref a)) _ >>= _) _ _ s
      refine wpAny_bind (wpAny_tryCatch (pull (A := A.in1) hh hd hSa hSc hs hS (fun v y ys H1 s₁ rv I1 hSR cy hS1 nxt => ?_) fun ys H1 s₁ I1 hSR q hn hS1 => ?_))
      · rcases hSR with ⟨rfl, _⟩ | ⟨_, _, _, _, _, _, _, _, _, e⟩
        · show wpAny _ A.in1 (updateSeq S (fun _ => #[v, v]) >>= _) _ _ _
          refine wpAny_bind ?_
          refine wpAny_updateSeq hS1 rfl ?_
          rw [hname]
          refine wpAny_pure ⟨plainId_quiet F.plain_min_loop _, go _ _ nxt (fun b o hb e => (Heap.get?_update_other _ _ (Ne.symm hb)).trans e) ⟨_, _, Heap.get?_update_self _ hS1 rfl, ?_⟩⟩
          exact .inr ⟨y, [], y, v, _, rfl, List.mem_cons_self, rfl, rv, rfl⟩
        · cases e
      · rcases hSR with ⟨rfl, _⟩ | ⟨_, _, _, _, _, _, _, _, _, e⟩
        · exact absurd rfl (hne _ _ q)
        · cases e
    · refine wpAny_bind (wpAny_seqItems hS rfl ?_)
      show wpAny _ A.in1 (tryCatch (pyNext (.ref a)) _ >>= _) _ _ s
      refine wpAny_bind (wpAny_tryCatch (pull (A := A.in1) hh hd hSa hSc hs hS (fun v y ys H1 s₁ rv I1 hSR cy hS1 nxt => ?_) fun ys H1 s₁ I1 hSR q hn hS1 => ?_))
      · rcases hSR with ⟨_, _, e⟩ | ⟨x, r, q, bv', c', rfl, hq, hqe, rq, e⟩
        · cases e
        · cases e
          obtain ⟨F0, hF, hall, hmm⟩ := cy
          have hqa := hall q (List.mem_append_left _ hq)
          have hya := hall y (List.mem_append_right _ (List.mem_singleton.mpr rfl))
          have hmq : q.1 ∈ ((x :: r) ++ [y]).map (·.1) := List.mem_map_of_mem (List.mem_append_left _ hq)
          have hmy : y.1 ∈ ((x :: r) ++ [y]).map (·.1) := List.mem_map_of_mem (List.mem_append_right _ (List.mem_singleton.mpr rfl))
          obtain ⟨as1, r1⟩ := Dp.reads I1 y.1 y.2 v ((hya.mono hF).dp (canLay_shaped (hmm.all.1 _ hmy))) rv
          obtain ⟨as2, r2⟩ := Dp.reads I1 q.1 q.2 bv ((hqa.mono hF).dp (canLay_shaped (hmm.all.1 _ hmq))) rq
          have hdp := depth_shaped (hmm.all.1 _ hmy)
          show wpAny _ A.in1 (tryCatch (holding [v, v] (richCompare .Lt v bv >>= _)) _ >>= _) _ _ _
          refine wpAny_bind (wpAny_tryCatch (wpAny_holding (wpAny_bind (PySem.W.rcLt_alike _ _ A.in1 s₁ v bv _ _ r1 r2 (hmm.all.2.1 _ hmy _ hmq) (hmm.all.2.2 _ hmy) (by
            have := Nat.min_le_left y.1.depth q.1.depth
            show A.units + 1 + _ < _
            omega) X.prog X.w _ _ ?_))))
          refine wpAny_bind (wpAny_holding (wpAny_truthy_bool ?_))
          refine wpAny_bind (wpAny_letGo (wpAny_pure ?_))
          cases hb : PySem.W.dataLt y.1 q.1 with
          | true =>
            simp only [if_true]
            refine wpAny_bind ?_
            refine wpAny_updateSeq hS1 rfl (wpAny_bind (wpAny_letGo ?_))
            rw [hname]
            refine wpAny_pure ⟨plainId_quiet F.plain_min_loop _, go _ _ nxt (fun b o hb e => (Heap.get?_update_other _ _ (Ne.symm hb)).trans e) ⟨_, _, Heap.get?_update_self _ hS1 rfl, .inr ⟨x, r ++ [y], y, v, _, rfl, by simp, ?_, rv, rfl⟩⟩⟩
            rw [List.map_append, List.map_cons, List.map_nil, minD_snoc, ← hqe, if_pos hb]
          | false =>
            simp only [Bool.false_eq_true, if_false]
            refine wpAny_bind (wpAny_letGo ?_)
            rw [hname]
            refine wpAny_pure ⟨plainId_quiet F.plain_min_loop _, go s₁.heap s₁.toks nxt (fun b o hb e => e) ⟨_, _, hS1, .inr ⟨x, r ++ [y], q, bv, _, rfl, List.mem_append_left (as := x :: r) _ hq, ?_, rq, rfl⟩⟩⟩
            rw [List.map_append, List.map_cons, List.map_nil, minD_snoc, ← hqe, if_neg (by rw [hb]; exact Bool.false_ne_true)]
      · rcases hSR with ⟨_, _, e⟩ | ⟨x, r, q', bv', c', rfl, hq, hqe, rq, e⟩
        · cases e
        · cases e
          show wpAny _ A.in1 (updateSeq S (fun _ => #[]) >>= _) _ _ _
          refine wpAny_bind ?_
          refine wpAny_updateSeq hS1 rfl (wpAny_bind (wpAny_letGo (wpAny_pure ?_)))
          exact hend x r q' bv H1 _ (inv_S hA hn I1 rfl I1.bare fun b o hb e => (Heap.get?_update_other _ _ (Ne.symm hb)).trans e) q hq hqe rq
set_option maxHeartbeats 2000000 in
theorem max_loop {A : Around} {R : Result → Shared → Prop} (hh : A.handled = none) (hd : A.depth < recursionLimit) (hu : A.units + 65 < cLine) (hSa : S ≠ a) (hSc : S ≠ cStatics) (hA : X.s_0.heap.objs.size ≤ S ∧ S ≠ X.env.locals ∧ (∀ x c, X.env.cells.lookup x = some c → c ≠ S) ∧ ∀ p ∈ X.pn ++ pins, p.1 ≠ S)
    (hne : ∀ ys H, QL ys H → ys ≠ [])
    (hend : ∀ x r q bv H s₁, Inv X pins σ H s₁ → QL (x :: r) H → q ∈ x :: r → q.1 = maxD x.1 (r.map (·.1)) → RelV q.2 bv → R (.ok (.ret bv)) s₁) :
    ∀ (m : Nat) (s : Shared), Asleep X pins σ a g S (srM maxD) (cyM X.K) QL A.in1.in1 m s → (∃ ys oS, s.heap.get? S = some oS ∧ srM maxD ys oS) → codeAny (model X.prog X.w) A (.builtin "max.loop" ⟨[.ref a, .none, .ref S], []⟩) R s := by
  have hname : (toString "max" ++ toString ".loop" : String) = "max.loop" := by decide
  intro m
  induction m using Nat.strongRecOn with
  | ind m ih =>
    intro s hs ⟨ys0, oS, hS, hSR0⟩
    have go : ∀ {ys : List DV} {y : DV} {s₁ : Shared} (h : Heap) (t : Nat), (∀ (h'' : Heap) (t'' : Nat), (∀ b o, b ≠ S → s₁.heap.get? b = some o → h''.get? b = some o) → (∃ oS', h''.get? S = some oS' ∧ srM maxD (ys ++ [y]) oS' ∧ ∀ v, oS'.data ≠ .cell v) → Next m fun k => Asleep X pins σ a g S (srM maxD) (cyM X.K) QL A.in1.in1 k { s₁ with heap := h'', toks := t'' }) →
        (∀ b o, b ≠ S → s₁.heap.get? b = some o → h.get? b = some o) → (∃ arr c, h.get? S = some (lstObj arr c) ∧ srM maxD (ys ++ [y]) (lstObj arr c)) → codeAny (model X.prog X.w) A (.builtin "max.loop" ⟨[.ref a, .none, .ref S], []⟩) R { s₁ with heap := h, toks := t } := fun {ys y s₁} h t nxt hk ⟨arr, c, h1, h2⟩ => by
      have nx := nxt h t hk ⟨_, h1, h2, fun v z => by cases z⟩
      cases m with
      | zero => exact nx.elim
      | succ k => exact ih k (Nat.lt_succ_self _) _ nx ⟨_, _, h1, h2⟩
    refine codeAny_builtin F.entry_max_loop ?_
    rw [Around.under_plainId F.plain_max_loop _]
    show wpAny _ A.in1 (seqItems? (.ref S) >>= _) _ _ s
    rcases hSR0 with ⟨_, c, rfl⟩ | ⟨_, _, _, bv, c, _, _, _, _, rfl⟩
    · refine wpAny_bind (wpAny_seqItems hS rfl ?_)
      show wpAny _ A.in1 (tryCatch (pyNext (.ref a)) _ >>= _) _ _ s
      refine wpAny_bind (wpAny_tryCatch (pull (A := A.in1) hh hd hSa hSc hs hS (fun v y ys H1 s₁ rv I1 hSR cy hS1 nxt => ?_) fun ys H1 s₁ I1 hSR q hn hS1 => ?_))
      · rcases hSR with ⟨rfl, _⟩ | ⟨_, _, _, _, _, _, _, _, _, e⟩
        · show wpAny _ A.in1 (updateSeq S (fun _ => #[v, v]) >>= _) _ _ _
          refine wpAny_bind ?_
          refine wpAny_updateSeq hS1 rfl ?_
          rw [hname]
          refine wpAny_pure ⟨plainId_quiet F.plain_max_loop _, go _ _ nxt (fun b o hb e => (Heap.get?_update_other _ _ (Ne.symm hb)).trans e) ⟨_, _, Heap.get?_update_self _ hS1 rfl, ?_⟩⟩
          exact .inr ⟨y, [], y, v, _, rfl, List.mem_cons_self, rfl, rv, rfl⟩
        · cases e
      · rcases hSR with ⟨rfl, _⟩ | ⟨_, _, _, _, _, _, _, _, _, e⟩
        · exact absurd rfl (hne _ _ q)
        · cases e
    · refine wpAny_bind (wpAny_seqItems hS rfl ?_)
      show wpAny _ A.in1 (tryCatch (pyNext (.ref a)) _ >>= _) _ _ s
      refine wpAny_bind (wpAny_tryCatch (pull (A := A.in1) hh hd hSa hSc hs hS (fun v y ys H1 s₁ rv I1 hSR cy hS1 nxt => ?_) fun ys H1 s₁ I1 hSR q hn hS1 => ?_))
      · rcases hSR with ⟨_, _, e⟩ | ⟨x, r, q, bv', c', rfl, hq, hqe, rq, e⟩
        · cases e
        · cases e
          obtain ⟨F0, hF, hall, hmm⟩ := cy
          have hqa := hall q (List.mem_append_left _ hq)
          have hya := hall y (List.mem_append_right _ (List.mem_singleton.mpr rfl))
          have hmq : q.1 ∈ ((x :: r) ++ [y]).map (·.1) := List.mem_map_of_mem (List.mem_append_left _ hq)
          have hmy : y.1 ∈ ((x :: r) ++ [y]).map (·.1) := List.mem_map_of_mem (List.mem_append_right _ (List.mem_singleton.mpr rfl))
          obtain ⟨as1, r1⟩ := Dp.reads I1 y.1 y.2 v ((hya.mono hF).dp (canLay_shaped (hmm.all.1 _ hmy))) rv
          obtain ⟨as2, r2⟩ := Dp.reads I1 q.1 q.2 bv ((hqa.mono hF).dp (canLay_shaped (hmm.all.1 _ hmq))) rq
          have hdp := depth_shaped (hmm.all.1 _ hmy)
          show wpAny _ A.in1 (tryCatch (holding [v, v] (richCompare .Gt v bv >>= _)) _ >>= _) _ _ _
          refine wpAny_bind (wpAny_tryCatch (wpAny_holding (wpAny_bind (PySem.W.rcGt_alike _ _ A.in1 s₁ v bv _ _ r1 r2 (hmm.all.2.1 _ hmy _ hmq) (hmm.all.2.2 _ hmy) (by
            have := Nat.min_le_left y.1.depth q.1.depth
            show A.units + 1 + _ < _
            omega) X.prog X.w _ _ ?_))))
          refine wpAny_bind (wpAny_holding (wpAny_truthy_bool ?_))
          refine wpAny_bind (wpAny_letGo (wpAny_pure ?_))
          cases hb : PySem.W.dataLt q.1 y.1 with
          | true =>
            simp only [if_true]
            refine wpAny_bind ?_
            refine wpAny_updateSeq hS1 rfl (wpAny_bind (wpAny_letGo ?_))
            rw [hname]
            refine wpAny_pure ⟨plainId_quiet F.plain_max_loop _, go _ _ nxt (fun b o hb e => (Heap.get?_update_other _ _ (Ne.symm hb)).trans e) ⟨_, _, Heap.get?_update_self _ hS1 rfl, .inr ⟨x, r ++ [y], y, v, _, rfl, by simp, ?_, rv, rfl⟩⟩⟩
            rw [List.map_append, List.map_cons, List.map_nil, maxD_snoc, ← hqe, if_pos hb]
          | false =>
            simp only [Bool.false_eq_true, if_false]
            refine wpAny_bind (wpAny_letGo ?_)
            rw [hname]
            refine wpAny_pure ⟨plainId_quiet F.plain_max_loop _, go s₁.heap s₁.toks nxt (fun b o hb e => e) ⟨_, _, hS1, .inr ⟨x, r ++ [y], q, bv, _, rfl, List.mem_append_left (as := x :: r) _ hq, ?_, rq, rfl⟩⟩⟩
            rw [List.map_append, List.map_cons, List.map_nil, maxD_snoc, ← hqe, if_neg (by rw [hb]; exact Bool.false_ne_true)]
      · rcases hSR with ⟨_, _, e⟩ | ⟨x, r, q', bv', c', rfl, hq, hqe, rq, e⟩
        · cases e
        · cases e
          show wpAny _ A.in1 (updateSeq S (fun _ => #[]) >>= _) _ _ _
          refine wpAny_bind ?_
          refine wpAny_updateSeq hS1 rfl (wpAny_bind (wpAny_letGo (wpAny_pure ?_)))
          exact hend x r q' bv H1 _ (inv_S hA hn I1 rfl I1.bare fun b o hb e => (Heap.get?_update_other _ _ (Ne.symm hb)).trans e) q hq hqe rq
end
end VL

namespace VL
open PySem PySem.Spec PyProof.Rows L2
open AutoSeq1 (wpAny_loadPart')
open PySem.W (minD maxD AlikeAll)
section
variable {X : Cx} {pins : List (Addr × Obj)} {σ : L2.St} {H : Hp} {s : Shared}
variable {SR : List DV → Obj → Prop} {CY : List DV → DV → Hp → Prop} {QL : List DV → Hp → Prop} {a S : Addr} {g k n : Nat}
/-- a generator that has just been made -/
def Fresh1 (X : Cx) (pins : List (Addr × Obj)) (σ : L2.St) (a : Addr) (g : Nat) (SR : List DV → Obj → Prop) (CY : List DV → DV → Hp → Prop) (QL : List DV → Hp → Prop) (k n : Nat) (s5 : Shared) : Prop :=
  s5.heap.IsGen a g ∧ s5.heap.NoLimit ∧ a < s5.heap.objs.size ∧ (∀ S, s5.heap.objs.size ≤ S → X.s_0.heap.objs.size ≤ S ∧ S ≠ X.env.locals ∧ (∀ x c, X.env.cells.lookup x = some c → c ≠ S) ∧ ∀ p ∈ X.pn ++ pins, p.1 ≠ S) ∧
  ∃ gs, s5.gens[g]? = some gs ∧ ∀ (A : Around) (S : Addr) (oS : Obj) (h6 : Heap) (t6 : Nat), Room (k + 1) A → A.frames = some X.stack → s5.heap.objs.size ≤ S → (∀ b o, s5.heap.get? b = some o → h6.get? b = some o) → h6.get? S = some oS → SR [] oS → (∀ v, oS.data ≠ .cell v) →
      gs.Goes (model X.prog X.w) A (GRL X pins σ S SR QL) (GYL X pins σ a g S SR CY) n (.send .none) ({ s5 with heap := h6, toks := t6 }.setGen g .running)
theorem Fresh1.asleep {A : Around} {oS : Obj} {h6 : Heap} {t6 : Nat} (h : Fresh1 X pins σ a g SR CY QL k n s) (hr : Room (k + 1) A) (hf : A.frames = some X.stack) (hS : s.heap.objs.size ≤ S) (hk : ∀ b o, s.heap.get? b = some o → h6.get? b = some o) (hS6 : h6.get? S = some oS) (h0 : SR [] oS) (hc : ∀ v, oS.data ≠ .cell v) :
    Asleep X pins σ a g S SR CY QL A n { s with heap := h6, toks := t6 } := by
  obtain ⟨hg, hl, _, _, gs, hgs, go⟩ := h
  exact ⟨hg.keeps hk, hl.keeps hk, gs, hgs, go A S oS h6 t6 hr hf hS hk hS6 h0 hc⟩
theorem Fresh1.ne {S : Addr} (h : Fresh1 X pins σ a g SR CY QL k n s) (hS : s.heap.objs.size ≤ S) : S ≠ a ∧ S ≠ cStatics := by
  obtain ⟨_, ⟨_, hn, _⟩, ha, _⟩ := h
  exact ⟨Nat.ne_of_gt (Nat.lt_of_lt_of_le ha hS), Nat.ne_of_gt (Nat.lt_of_lt_of_le hn.lt hS)⟩
/-! ### sum -/
theorem call_sumG {A : Around} {Q : Value → Shared → Prop} {E : Value → Shared → Prop} (hr : Room (k + 3) A) (hf : A.frames = some X.stack) (h : Fresh1 X pins σ a g srS cyS QL k n s) (hQ : ∀ ys H s₁ t, Inv X pins σ H s₁ → QL ys H → Q (.int (sumV ys) t) s₁) :
    wpAny (model X.prog X.w) A (call (.builtin "sum") [.ref a]) Q E s := by
  refine call_function_tree F.kind_sum F.plain_sum F.entry_sum (F.args_sum1 _) ?_
  unfold Builtin.«sum»
  simp only [List.length_cons, List.length_nil]
  rw [if_neg (by decide)]
  refine wpAny_bind (wpAny_of_eq (show Builtin.Builtins.bindParams "sum" ["start"] 0 { } = pure [none] from rfl) ?_)
  refine wpAny_bind (wpAny_pyIter_gen h.1 ?_)
  refine wpAny_bind (wpAny_mkInt ?_)
  refine wpAny_bind (wpAny_pure ?_)
  simp only [List.forIn_cons, List.forIn_nil]
  refine wpAny_bind (wpAny_bind (wpAny_bind (wpAny_isInstance (T := "int") (b := false) (typeIs_int _ _ _) PySem.sub_int_str ?_)))
  simp only [Bool.false_eq_true, if_false]
  refine wpAny_pure (wpAny_bind (wpAny_bind (wpAny_isInstance (T := "int") (b := false) (typeIs_int _ _ _) PySem.sub_int_bytes ?_)))
  simp only [Bool.false_eq_true, if_false]
  refine wpAny_pure (wpAny_bind (wpAny_bind (wpAny_isInstance (T := "int") (b := false) (typeIs_int _ _ _) PySem.sub_int_bytearray ?_)))
  simp only [Bool.false_eq_true, if_false]
  refine wpAny_pure (wpAny_pure ?_)
  refine wpAny_bind (wpAny_newObj_type ?_)
  have ne := h.ne (Nat.le_refl _)
  have rr : Room (k + 1) A.in1.in1 := (hr.in1).in1
  refine wpAny_pure ⟨plainId_quiet F.plain_sum_loop _, sum_loop (X := X) (pins := pins) (σ := σ) (S := s.heap.objs.size) hr.hd (by have := hr.dp; omega) ne.1 ne.2 (fun ys H s₁ t I q => hQ ys H s₁ t I q) n _ 0 (.inl rfl) (h.asleep rr hf (Nat.le_refl _) (fun b o e => Heap.get?_push_of_some _ e) (Heap.get?_push_size _ rfl) ⟨_, _, rfl⟩ fun v z => by cases z) ⟨_, _, _, Heap.get?_push_size _ rfl⟩⟩
/-! ### min, max -/
theorem call_minG {A : Around} {Q : Value → Shared → Prop} {E : Value → Shared → Prop} (hr : Room (k + 3) A) (hf : A.frames = some X.stack) (hu : A.units + 65 < cLine) (h : Fresh1 X pins σ a g (srM minD) (cyM X.K) QL k n s) (hne : ∀ ys H, QL ys H → ys ≠ [])
    (hQ : ∀ x r q bv H s₁, Inv X pins σ H s₁ → QL (x :: r) H → q ∈ x :: r → q.1 = minD x.1 (r.map (·.1)) → RelV q.2 bv → Q bv s₁) : wpAny (model X.prog X.w) A (call (.builtin "min") [.ref a]) Q E s := by
  have hname : (toString "min" ++ toString ".loop" : String) = "min.loop" := by decide
  refine call_function_tree F.kind_min F.plain_min F.entry_min (F.args_min1 _) ?_
  show wpAny _ A.in1 (Builtin.Builtins.bindParams "min" ["key", "default"] 0 ⟨[], []⟩ >>= _) _ _ s
  refine wpAny_bind (wpAny_of_eq (show Builtin.Builtins.bindParams "min" ["key", "default"] 0 ⟨[], []⟩ = pure [none, none] from rfl) ?_)
  refine wpAny_bind (wpAny_pure ?_)
  refine wpAny_bind (wpAny_pyIter_gen h.1 ?_)
  refine wpAny_bind (wpAny_newObj_type ?_)
  have ne := h.ne (Nat.le_refl _)
  have rr : Room (k + 1) A.in1.in1 := (hr.in1).in1
  rw [hname]
  refine wpAny_pure ⟨plainId_quiet F.plain_min_loop _, min_loop (X := X) (pins := pins) (σ := σ) (S := s.heap.objs.size) hr.hd (by have := hr.dp; omega) hu ne.1 ne.2 (h.2.2.2.1 _ (Nat.le_refl _)) hne (fun x r q bv H s₁ I => hQ x r q bv H s₁ I) n _ (h.asleep rr hf (Nat.le_refl _) (fun b o e => Heap.get?_push_of_some _ e) (Heap.get?_push_size _ rfl) (.inl ⟨rfl, _, rfl⟩) fun v z => by cases z) ⟨[], _, Heap.get?_push_size _ rfl, .inl ⟨rfl, _, rfl⟩⟩⟩
theorem call_maxG {A : Around} {Q : Value → Shared → Prop} {E : Value → Shared → Prop} (hr : Room (k + 3) A) (hf : A.frames = some X.stack) (hu : A.units + 65 < cLine) (h : Fresh1 X pins σ a g (srM maxD) (cyM X.K) QL k n s) (hne : ∀ ys H, QL ys H → ys ≠ [])
    (hQ : ∀ x r q bv H s₁, Inv X pins σ H s₁ → QL (x :: r) H → q ∈ x :: r → q.1 = maxD x.1 (r.map (·.1)) → RelV q.2 bv → Q bv s₁) : wpAny (model X.prog X.w) A (call (.builtin "max") [.ref a]) Q E s := by
  have hname : (toString "max" ++ toString ".loop" : String) = "max.loop" := by decide
  refine call_function_tree F.kind_max F.plain_max F.entry_max (F.args_max1 _) ?_
  show wpAny _ A.in1 (Builtin.Builtins.bindParams "max" ["key", "default"] 0 ⟨[], []⟩ >>= _) _ _ s
  refine wpAny_bind (wpAny_of_eq (show Builtin.Builtins.bindParams "max" ["key", "default"] 0 ⟨[], []⟩ = pure [none, none] from rfl) ?_)
  refine wpAny_bind (wpAny_pure ?_)
  refine wpAny_bind (wpAny_pyIter_gen h.1 ?_)
  refine wpAny_bind (wpAny_newObj_type ?_)
  have ne := h.ne (Nat.le_refl _)
  have rr : Room (k + 1) A.in1.in1 := (hr.in1).in1
  rw [hname]
  refine wpAny_pure ⟨plainId_quiet F.plain_max_loop _, max_loop (X := X) (pins := pins) (σ := σ) (S := s.heap.objs.size) hr.hd (by have := hr.dp; omega) hu ne.1 ne.2 (h.2.2.2.1 _ (Nat.le_refl _)) hne (fun x r q bv H s₁ I => hQ x r q bv H s₁ I) n _ (h.asleep rr hf (Nat.le_refl _) (fun b o e => Heap.get?_push_of_some _ e) (Heap.get?_push_size _ rfl) (.inl ⟨rfl, _, rfl⟩) fun v z => by cases z) ⟨[], _, Heap.get?_push_size _ rfl, .inl ⟨rfl, _, rfl⟩⟩⟩
/-! ### tuple -/
theorem collectG {A : Around} {Q : List Value → Shared → Prop} {E : Value → Shared → Prop} (hr : Room (k + 3) A) (hf : A.frames = some X.stack) (h : Fresh1 X pins σ a g srL cyL QL k n s) (hQ : ∀ (ys : List DV) (H : Hp) (s₁ : Shared) (acc : Array Value), Inv X pins σ H s₁ → Vals (ys.map (·.2)) acc.toList → QL ys H → Q acc.toList s₁) :
    wpAny (model X.prog X.w) A (collect (.ref a)) Q E s := by
  have ne := h.ne (Nat.le_refl _)
  unfold collect
  refine wpAny_bind (wpAny_runValue (codeAny_builtin F.entry_proto_collect ?_))
  rw [Around.under_plainId F.plain_proto_collect _]
  show wpAny _ A.in1 (newList [] >>= fun l => again (.builtin "list.__iadd__" ⟨[l, .ref a], []⟩)) _ _ s
  refine wpAny_bind (wpAny_newObj_type ?_)
  refine wpAny_pure ⟨plainId_quiet F.plain_list_iadd _, codeAny_builtin F.entry_list_iadd ?_⟩
  rw [Around.under_plainId F.plain_list_iadd _]
  have hg1 : (s.heap.push { cls := .type "list", data := .seq ([] : List Value).toArray }).IsGen a g := h.1.keeps fun b o e => Heap.get?_push_of_some _ e
  show wpAny _ A.in1 (Builtin.List.listExtendWith (.ref s.heap.objs.size) (.ref a) (.ref s.heap.objs.size)) _ _ _
  unfold Builtin.List.listExtendWith
  refine wpAny_bind (wpAny_typeOf (Heap.IsGen.typeIs (s := { s with heap := _ }) hg1) ?_)
  have h1 : Builtin.List.listSameRef (.ref s.heap.objs.size) (.ref a) = false := by simp [Builtin.List.listSameRef, ne.1]
  have h2 : (Value.type "generator" == Value.type "list") = false := by decide
  have h3 : (Value.type "generator" == Value.type "tuple") = false := by decide
  simp only [h1, h2, h3, Bool.or_false, Bool.false_eq_true, if_false]
  refine wpAny_bind (wpAny_pyIter_gen (s := { s with heap := _ }) hg1 ?_)
  refine wpAny_bind (wpAny_holding ?_)
  unfold Builtin.List.listLengthHint
  refine wpAny_bind (wpAny_specialOf (Heap.IsGen.typeIs (s := { s with heap := _ }) hg1) F.gen_no_len ?_)
  show wpAny _ A.in1 (specialOf (Value.ref a) (Str.ofString "__length_hint__") >>= _) _ _ _
  refine wpAny_bind (wpAny_specialOf (Heap.IsGen.typeIs (s := { s with heap := _ }) hg1) F.gen_no_hint ?_)
  refine wpAny_pure ?_
  show wpAny _ A.in1 (rule "list.extend.makes-room" >>= fun _ => Builtin.List.listTouch (.ref s.heap.objs.size) >>= fun _ =>
    again (.builtin "list.extend.loop" ⟨[.ref s.heap.objs.size, .ref a, .ref s.heap.objs.size], []⟩)) _ _ _
  refine wpAny_bind (wpAny_rule ?_)
  have hS₁ : (s.heap.push { cls := .type "list", data := .seq ([] : List Value).toArray }).get? s.heap.objs.size = some { cls := .type "list", data := .seq ([] : List Value).toArray } := Heap.get?_push_size _ rfl
  refine wpAny_bind ?_
  show wpAny _ A.in1 (updateSeq s.heap.objs.size (·.push .none) >>= fun _ => updateSeq s.heap.objs.size (·.pop)) _ _ _
  refine wpAny_bind (wpAny_updateSeq hS₁ rfl ?_)
  have hS₂ := Heap.get?_update_self (Obj.mapSeq (·.push Value.none)) hS₁ rfl
  refine wpAny_updateSeq (hz := by seq_fits) hS₂ rfl ?_
  have hS₃ := Heap.get?_update_self (Obj.mapSeq (·.pop)) hS₂ rfl
  have oth : ∀ b o, s.heap.get? b = some o →
      (((s.heap.push { cls := .type "list", data := .seq ([] : List Value).toArray }).update s.heap.objs.size (Obj.mapSeq (·.push Value.none))).update s.heap.objs.size (Obj.mapSeq (·.pop))).get? b = some o :=
    fun b o e => (Heap.get?_update_other _ _ (Ne.symm (Nat.ne_of_lt (Heap.lt_size e)))).trans ((Heap.get?_update_other _ _ (Ne.symm (Nat.ne_of_lt (Heap.lt_size e)))).trans (Heap.get?_push_of_some _ e))
  have rr : Room (k + 1) A.in1.in1 := (hr.in1).in1
  refine wpAny_pure ⟨plainId_quiet F.plain_extend_loop _, ext_loop (X := X) (pins := pins) (σ := σ) (S := s.heap.objs.size) hr.hd (by have := hr.dp; omega) ne.1 ne.2 (fun ys H s₁ acc c I hV q hS' => ?_) n _ (h.asleep rr hf (Nat.le_refl _) oth hS₃ ⟨_, _, rfl, .nil⟩ fun v z => by cases z) ⟨_, _, hS₃⟩⟩
  show wpAny _ A (load s.heap.objs.size >>= _) _ _ s₁
  refine wpAny_bind (wpAny_load hS' ?_)
  exact wpAny_pure (hQ ys H s₁ acc I hV q)
theorem code_tuple_newG {A : Around} {Q₁ : Value → Shared → Prop} {E : Value → Shared → Prop} (hr : Room (k + 4) A) (hf : A.frames = some X.stack) (h : Fresh1 X pins σ a g srL cyL QL k n s)
    (hQ : ∀ (ys : List DV) (H : Hp) (s₁ : Shared) (acc : Array Value), Inv X pins σ H s₁ → Vals (ys.map (·.2)) acc.toList → QL ys H → acc.size ≤ sizeLine ∧ Q₁ (.ref s₁.heap.objs.size) { s₁ with heap := s₁.heap.push { cls := .type "tuple", data := .seq acc } }) :
    codeAny (model X.prog X.w) A (.call (.builtin "tuple.__new__") ⟨[.type "tuple", .ref a], []⟩) (wants Q₁ E) s := by
  refine codeAny_of_tree ?_
  show wpAny _ A.in1 (do checkBuiltinCall "tuple.__new__" ⟨[.type "tuple", .ref a], []⟩; again (.builtin "tuple.__new__" ⟨[.type "tuple", .ref a], []⟩)) _ _ s
  refine wpAny_bind (wpAny_of_eq (F.newCall_tuple_1 _) (wpAny_pure ⟨plainId_quiet F.plain_tuple_new _, codeAny_builtin F.entry_tuple_new ?_⟩))
  rw [Around.under_plainId F.plain_tuple_new _]
  have hsub := sub_tuple_self
  have hinit := init_tuple_lookup
  have hmh := madeHere_tuple
  have hTI : s.TypeIs (.ref a) "generator" := Heap.IsGen.typeIs h.1
  have hr1 : Room (k + 3) A.in1 := hr.in1
  wp_walk using wpAny_typeOf hTI, collectG hr1 hf h
  intro ys H s' acc I hV q
  obtain ⟨hsz, hq⟩ := hQ ys H s' acc I hV q
  show wpAny _ _ (Builtin.Tuple.tupleExact acc.toList.toArray >>= fun v => ret v) _ _ _
  unfold Builtin.Tuple.tupleExact
  refine wpAny_bind (wpAny_newObj_type ?_ (by show acc.toList.toArray.size ≤ sizeLine; simp only [Array.toArray_toList]; exact hsz))
  refine wpAny_pure ?_
  have e : acc.toList.toArray = acc := by simp
  rw [e]
  exact hq
theorem call_tupleG {A : Around} {Q : Value → Shared → Prop} {E : Value → Shared → Prop} (hr : Room (k + 5) A) (hf : A.frames = some X.stack) (h : Fresh1 X pins σ a g srL cyL QL k n s)
    (hQ : ∀ (ys : List DV) (H : Hp) (s₁ : Shared) (acc : Array Value), Inv X pins σ H s₁ → Vals (ys.map (·.2)) acc.toList → QL ys H → acc.size ≤ sizeLine ∧ Q (.ref s₁.heap.objs.size) { s₁ with heap := s₁.heap.push { cls := .type "tuple", data := .seq acc } }) :
    wpAny (model X.prog X.w) A (call (.type "tuple") [.ref a]) Q E s := by
  refine callType_codes (Q₁ := fun obj s₁ => s₁.TypeIs obj "tuple" ∧ Q obj s₁) F.called_tuple (F.typeCall_tuple_1 _) F.entry_object_init
    (code_tuple_newG (A := A.in1) hr.in1 hf h fun ys H s' acc I hV q => ⟨(hQ ys H s' acc I hV q).1, ⟨_, Heap.get?_push_size _ rfl, rfl⟩, (hQ ys H s' acc I hV q).2⟩) fun obj s₁ h₁ => ?_
  exact ⟨h₁.1, F.args_object_init_2 obj _, object_init_meets F.called_tuple.init.lookup F.called_tuple.made (by decide) X.prog X.w A.in1 _ s₁ ⟨h₁.1, rfl, h₁.2⟩⟩
end
end VL

namespace VL
open PySem PySem.Spec PyProof.Rows L2
open PySem.W (minD maxD AlikeAll)
section
variable {X : Cx} {W : Wish}
section
variable {k : Nat} {elt tg iter : Expr} {ifs : List Expr} {scope : Scope} {own : List (Str × Nat)} {gpos p pos : Pos} {wi : TI} {g : TG} {tt : TT} {te : TE} {c P : Addr}
abbrev GenP (X : Cx) (k : Nat) (elt tg : Expr) (ifs : List Expr) (scope : Scope) (g : TG) (tt : TT) (te : TE) : Prop :=
  ∀ (A : Around) (s : Shared) (H : Hp) (C : Addr) (code : Value) (fp : List Addr), Room k (A.deeper (genEnv scope (cloFrom X.env.cells scope.names []) C code builtinsNs X.env)) →
    PG (genX X A s H (genEnv scope (cloFrom X.env.cells scope.names []) C code builtinsNs X.env) fp) tg g ∧ PTs (genX X A s H (genEnv scope (cloFrom X.env.cells scope.names []) C code builtinsNs X.env) fp) ifs tt ∧ PE (genX X A s H (genEnv scope (cloFrom X.env.cells scope.names []) C code builtinsNs X.env) fp) elt te
def tSumG (P : Addr) (wi : TI) (g : TG) (tt : TT) (te : TE) (vs : List Nat) : TE := fun σ H Q => tGl P cyS wi g tt te vs (fun ys H' => Q (.int (sumV ys)) H') σ H
def tMmG (K : PySem.W.Frag) (f : PyData → List PyData → PyData) (P : Addr) (wi : TI) (g : TG) (tt : TT) (te : TE) (vs : List Nat) : TE := fun σ H Q => tGl P (cyM K) wi g tt te vs (fun ys H' => ys ≠ [] ∧ ∀ x r q, ys = x :: r → q ∈ ys → q.1 = f x.1 (r.map (·.1)) → Q q.2 H') σ H
def tTupG (P : Addr) (wi : TI) (g : TG) (tt : TT) (te : TE) (vs : List Nat) : TE := fun σ H Q => tGl P cyL wi g tt te vs (fun ys H' => ys.length ≤ sizeLine ∧ ∀ p, H' p = none → Q (.ref p) (upd H' p (.tup (ys.map (·.2))))) σ H
theorem pe_sumG (hr : Room (k + 3) X.A) (hc : X.calm = true) (hN : X.N.Nodup) (hg : Gl X "sum") (hm : X.mg "sum" = none) (TB : GxR.TabB X.base X.mg c P) (hcode : X.env.code = .ref c) (hi : PI X tg iter wi) (ok : BlkOk X.N X.env.scope scope own) (hcell : ∀ y ∈ scope.names, y.2 ≠ .cell) (hdot : scope.names.lookup (".0" : Str) = some NameKind.local) (hco : scope.isCoroutine = false)
    (hp : GenP X k elt tg ifs scope g tt te) (hs : ∀ v, genFold iter X.env v = pure v)
    (he : starEach [.GeneratorExp elt [⟨tg, iter, ifs, 0⟩] scope gpos] X.env = (false, eval (.GeneratorExp elt [⟨tg, iter, ifs, 0⟩] scope gpos) X.env) :: starEach [] X.env := by rfl) :
    PE X (.Call (.Name "sum" p) [.GeneratorExp elt [⟨tg, iter, ifs, 0⟩] scope gpos] [] pos) (tSumG P wi g tt te (own.map (·.2))) := by
  refine ⟨fun pins s σ H Q I h => ?_⟩
  refine wpAny_Call_Name_kw (ld_blt I hg hm (by decide +kernel : bootBuiltins "sum" = some (.builtin "sum")) ?_)
  refine PyProof.Rows.callWith_builtin1 ?_ he (by rfl)
  rw [he]
  show wpAny _ _ (spliced ((false, eval (.GeneratorExp elt [⟨tg, iter, ifs, 0⟩] scope gpos) X.env) :: backTo pos (starEach [] X.env))) _ _ s
  refine Calls.spliced_cons (gen_madeL (SR := srS) (CY := cyS) (QL := fun (ys : List DV) H' => Q (.int (sumV ys)) H') hr hc hN TB hcode hi ok hcell hdot hco (fun A s H C code fp r => (hp A s H C code fp r).1) (fun A s H C code fp r => (hp A s H C code fp r).2.1) (fun A s H C code fp r => (hp A s H C code fp r).2.2) hs I h fun a gno n s5 q1 q2 q3 q4 q5 => ?_)
  refine Calls.spliced_nil ?_
  exact call_sumG (X := X) (pins := pins) (σ := σ) hr I.ok.frames ⟨q1, q2, q3, q4, q5⟩ fun ys H1 s' t I' q => ⟨.int (sumV ys), H1, I', ⟨t, rfl⟩, q⟩
theorem pe_minG (hr : Room (k + 3) X.A) (hc : X.calm = true) (hu : X.A.units + 65 < cLine) (hN : X.N.Nodup) (hg : Gl X "min") (hm : X.mg "min" = none) (TB : GxR.TabB X.base X.mg c P) (hcode : X.env.code = .ref c) (hi : PI X tg iter wi) (ok : BlkOk X.N X.env.scope scope own) (hcell : ∀ y ∈ scope.names, y.2 ≠ .cell) (hdot : scope.names.lookup (".0" : Str) = some NameKind.local) (hco : scope.isCoroutine = false)
    (hp : GenP X k elt tg ifs scope g tt te) (hs : ∀ v, genFold iter X.env v = pure v)
    (he : starEach [.GeneratorExp elt [⟨tg, iter, ifs, 0⟩] scope gpos] X.env = (false, eval (.GeneratorExp elt [⟨tg, iter, ifs, 0⟩] scope gpos) X.env) :: starEach [] X.env := by rfl) :
    PE X (.Call (.Name "min" p) [.GeneratorExp elt [⟨tg, iter, ifs, 0⟩] scope gpos] [] pos) (tMmG X.K minD P wi g tt te (own.map (·.2))) := by
  refine ⟨fun pins s σ H Q I h => ?_⟩
  refine wpAny_Call_Name_kw (ld_blt I hg hm (by decide +kernel : bootBuiltins "min" = some (.builtin "min")) ?_)
  refine PyProof.Rows.callWith_builtin1 ?_ he (by rfl)
  rw [he]
  show wpAny _ _ (spliced ((false, eval (.GeneratorExp elt [⟨tg, iter, ifs, 0⟩] scope gpos) X.env) :: backTo pos (starEach [] X.env))) _ _ s
  refine Calls.spliced_cons (gen_madeL (SR := srM minD) (CY := cyM X.K) (QL := fun (ys : List DV) H' => ys ≠ [] ∧ ∀ x r q, ys = x :: r → q ∈ ys → q.1 = minD x.1 (r.map (·.1)) → Q q.2 H') hr hc hN TB hcode hi ok hcell hdot hco (fun A s H C code fp r => (hp A s H C code fp r).1) (fun A s H C code fp r => (hp A s H C code fp r).2.1) (fun A s H C code fp r => (hp A s H C code fp r).2.2) hs I h fun a gno n s5 q1 q2 q3 q4 q5 => ?_)
  refine Calls.spliced_nil ?_
  exact call_minG (X := X) (pins := pins) (σ := σ) hr I.ok.frames hu ⟨q1, q2, q3, q4, q5⟩ (fun ys H h => h.1) fun x r q bv H1 s' I' h hq he rv => ⟨q.2, H1, I', rv, h.2 x r q rfl hq he⟩
theorem pe_maxG (hr : Room (k + 3) X.A) (hc : X.calm = true) (hu : X.A.units + 65 < cLine) (hN : X.N.Nodup) (hg : Gl X "max") (hm : X.mg "max" = none) (TB : GxR.TabB X.base X.mg c P) (hcode : X.env.code = .ref c) (hi : PI X tg iter wi) (ok : BlkOk X.N X.env.scope scope own) (hcell : ∀ y ∈ scope.names, y.2 ≠ .cell) (hdot : scope.names.lookup (".0" : Str) = some NameKind.local) (hco : scope.isCoroutine = false)
    (hp : GenP X k elt tg ifs scope g tt te) (hs : ∀ v, genFold iter X.env v = pure v)
    (he : starEach [.GeneratorExp elt [⟨tg, iter, ifs, 0⟩] scope gpos] X.env = (false, eval (.GeneratorExp elt [⟨tg, iter, ifs, 0⟩] scope gpos) X.env) :: starEach [] X.env := by rfl) :
    PE X (.Call (.Name "max" p) [.GeneratorExp elt [⟨tg, iter, ifs, 0⟩] scope gpos] [] pos) (tMmG X.K maxD P wi g tt te (own.map (·.2))) := by
  refine ⟨fun pins s σ H Q I h => ?_⟩
  refine wpAny_Call_Name_kw (ld_blt I hg hm (by decide +kernel : bootBuiltins "max" = some (.builtin "max")) ?_)
  refine PyProof.Rows.callWith_builtin1 ?_ he (by rfl)
  rw [he]
  show wpAny _ _ (spliced ((false, eval (.GeneratorExp elt [⟨tg, iter, ifs, 0⟩] scope gpos) X.env) :: backTo pos (starEach [] X.env))) _ _ s
  refine Calls.spliced_cons (gen_madeL (SR := srM maxD) (CY := cyM X.K) (QL := fun (ys : List DV) H' => ys ≠ [] ∧ ∀ x r q, ys = x :: r → q ∈ ys → q.1 = maxD x.1 (r.map (·.1)) → Q q.2 H') hr hc hN TB hcode hi ok hcell hdot hco (fun A s H C code fp r => (hp A s H C code fp r).1) (fun A s H C code fp r => (hp A s H C code fp r).2.1) (fun A s H C code fp r => (hp A s H C code fp r).2.2) hs I h fun a gno n s5 q1 q2 q3 q4 q5 => ?_)
  refine Calls.spliced_nil ?_
  exact call_maxG (X := X) (pins := pins) (σ := σ) hr I.ok.frames hu ⟨q1, q2, q3, q4, q5⟩ (fun ys H h => h.1) fun x r q bv H1 s' I' h hq he rv => ⟨q.2, H1, I', rv, h.2 x r q rfl hq he⟩
theorem pe_tupG (hr : Room (k + 5) X.A) (hc : X.calm = true) (hN : X.N.Nodup) (hg : Gl X "tuple") (hm : X.mg "tuple" = none) (TB : GxR.TabB X.base X.mg c P) (hcode : X.env.code = .ref c) (hi : PI X tg iter wi) (ok : BlkOk X.N X.env.scope scope own) (hcell : ∀ y ∈ scope.names, y.2 ≠ .cell) (hdot : scope.names.lookup (".0" : Str) = some NameKind.local) (hco : scope.isCoroutine = false)
    (hp : GenP X k elt tg ifs scope g tt te) (hs : ∀ v, genFold iter X.env v = pure v)
    (he : starEach [.GeneratorExp elt [⟨tg, iter, ifs, 0⟩] scope gpos] X.env = (false, eval (.GeneratorExp elt [⟨tg, iter, ifs, 0⟩] scope gpos) X.env) :: starEach [] X.env := by rfl) :
    PE X (.Call (.Name "tuple" p) [.GeneratorExp elt [⟨tg, iter, ifs, 0⟩] scope gpos] [] pos) (tTupG P wi g tt te (own.map (·.2))) := by
  refine ⟨fun pins s σ H Q I h => ?_⟩
  refine wpAny_Call_Name_kw (ld_blt I hg hm (by decide +kernel : bootBuiltins "tuple" = some (.type "tuple")) ?_)
  refine PyProof.Rows.callWith_type1 ?_ he rfl
  rw [he]
  show wpAny _ _ (spliced ((false, eval (.GeneratorExp elt [⟨tg, iter, ifs, 0⟩] scope gpos) X.env) :: backTo pos (starEach [] X.env))) _ _ s
  refine Calls.spliced_cons (gen_madeL (SR := srL) (CY := cyL) (QL := fun (ys : List DV) H' => ys.length ≤ sizeLine ∧ ∀ p, H' p = none → Q (.ref p) (upd H' p (.tup (ys.map fun q : DV => q.2)))) (Room.mono hr (by omega)) hc hN TB hcode hi ok hcell hdot hco (fun A s H C code fp r => (hp A s H C code fp r).1) (fun A s H C code fp r => (hp A s H C code fp r).2.1) (fun A s H C code fp r => (hp A s H C code fp r).2.2) hs I h fun a gno n s5 q1 q2 q3 q4 q5 => ?_)
  refine Calls.spliced_nil ?_
  refine call_tupleG (X := X) (pins := pins) (σ := σ) hr I.ok.frames ⟨q1, q2, q3, q4, q5⟩ fun ys H1 s' acc I' hV q => ?_
  have hlen : acc.size = ys.length := by
    have := hV.length
    simp only [List.length_map, Array.length_toList] at this
    exact this.symm
  refine ⟨by rw [hlen]; exact q.1, .ref s'.heap.objs.size, upd H1 s'.heap.objs.size (.tup (ys.map (·.2))), ?_, rfl, q.2 _ (I'.hok.fresh (Nat.le_refl _))⟩
  refine I'.laid (t' := s'.toks) (fun b u e => Heap.get?_push_of_some _ e) (Nat.le_refl _) ?_
  refine (show ObjOk X.prog X.w _ _ _ (.tup (ys.map (·.2))) from ⟨by rw [List.length_map]; exact q.1, acc.toList, hV, ?_⟩)
  exact IsTup.new _ _
end
end
/-! ### by values -/
/-- K of all values that are handed out -/
noncomputable def vGl (Kf : List PyData → R PyData) (fi : FI) (gt : FG) (tt : FT) (fe : FE) (vs : List Nat) : FE := fun ρ st => fi ρ st >>= fun a => (lcG a.1 gt tt fe (wipeV ρ vs) a.1.ds a.2).only fun b => if b.1.length ≤ LIM then Kf b.1 >>= fun d => .ok (.p d, b.2) else .bad
theorem hasL_of {K : PySem.W.Frag} {F : Hp} : ∀ {ys : List DV}, (∀ p ∈ ys, Has K F p.1 p.2) → HasL K F (ys.map (·.1)) (ys.map (·.2))
  | [], _ => .nil
  | y :: ys, h => (HasL.singleton (h y List.mem_cons_self)).append (hasL_of fun p hp => h p (List.mem_cons_of_mem _ hp))
theorem gl_read {K : PySem.W.Frag} {W : Wish} {c P : Addr} {fi : FI} {gt : FG} {tt : FT} {fe : FE} {vs ws : List Nat} {wi : TI} {Kf : List PyData → R PyData} {CY : List DV → DV → Hp → Prop} {QF : VK → List DV → Hp → Prop} (hP : (c, P) ∈ tabsOf K) (hws : ∀ j ∈ ws, j ∈ vs) (hx : ∀ l n z, Kf l ≠ .exc n z)
    (runI : ∀ ρ st σ g P, Rel K ρ st σ g → KR (WN K W ρ σ g) (okI K ρ σ P g) (fi ρ st) → wi σ g.H P)
    (hcy : ∀ (l : List PyData) (d0 : PyData) (ys : List DV) (y : DV) (r : List PyData) (g : Gh), Kf l = .ok d0 → l.length ≤ LIM → l = ys.map (·.1) ++ y.1 :: r → (∀ p ∈ ys ++ [y], Has K g.F p.1 p.2) → Same g.F g.H → CY ys y g.H)
    (hql : ∀ (l : List PyData) (d0 : PyData) (ys : List DV) (g : Gh) (ρ : Slots) (st : Store) (σ : L2.St) (Q : VK), Kf l = .ok d0 → l.length ≤ LIM → l = ys.map (·.1) → (∀ p ∈ ys, Has K g.F p.1 p.2) → Rel K ρ st σ g → okE K ρ σ Q g (.p d0, st) → QF Q ys g.H) :
    RE K W (fun σ H Q => tGl P CY wi (gOf K ws gt) (ttOf K noW tt) (tOf K noW fe) vs (QF Q) σ H) (vGl Kf fi gt tt fe vs) := by
  intro ρ st σ g Q rel k
  refine runI ρ st σ g _ rel (KR.mono (KR.bind k) (fun a ha J g1 e1 r1 o1 w1 => ⟨(r1.wd.tabs _ hP).1, fun H2 hT => ?_⟩) fun n s hn => hn)
  obtain ⟨s, st1⟩ := a
  have ha : KR (WN K W ρ σ g) (okE K ρ σ Q g) ((lcG s gt tt fe (wipeV ρ vs) s.ds st1).only fun b => if b.1.length ≤ LIM then Kf b.1 >>= fun d => .ok (.p d, b.2) else .bad) := ha
  refine ⟨fun i m ys H => ∃ st' g', g'.H = H ∧ Ext g1 g' ∧ Wd K st' g' ∧ i ≤ s.ds.length ∧ m = s.ds.length - i ∧ (∀ p ∈ ys, Has K g'.F p.1 p.2) ∧
      KR no (fun (b : List PyData × Store) => ∃ d0, Kf (ys.map (·.1) ++ b.1) = .ok d0 ∧ (ys.map (·.1) ++ b.1).length ≤ LIM ∧ okE K ρ σ Q g (.p d0, b.2)) (lcG s gt tt fe (wipeV ρ vs) (s.ds.drop i) st'),
    ⟨s.ds.length, st1, ⟨g1.F, g1.A, H2⟩, rfl, ext_tab (r1.wd.tabs _ hP).1 hT, wd_tab r1.wd (r1.wd.tabs _ hP) hT, Nat.zero_le _, rfl, (fun p hp => by cases hp), ?_⟩, ?_⟩
  · rw [List.drop_zero]
    refine KR.mono (R.only_of ha) (fun b hb0 => ?_) fun _ _ z => z
    split at hb0
    · rename_i hl
      cases hk : Kf b.1 with
      | ok d0 => rw [hk] at hb0; exact ⟨d0, by rw [List.map_nil, List.nil_append]; exact hk, by rw [List.map_nil, List.nil_append]; exact hl, hb0⟩
      | exc n z => exact absurd hk (hx _ _ _)
      | bad => rw [hk] at hb0; exact absurd hb0 id
    · exact hb0.elim
  rintro i m ys H ⟨st', g', rfl, e', w', hi, rfl, hys, k'⟩
  have sl' : Sl K g' ρ σ := r1.sl.ext e'
  by_cases hlt : i < s.ds.length
  · rw [List.drop_eq_getElem_cons hlt] at k'
    unfold lcG at k'
    split at k'
    · rename_i ok
      obtain ⟨go, stop, yld⟩ := w1 st' g' e'.w w' ok
      refine .inr ⟨go i hlt, fun ys2 H2 => ∃ st2 g2, g2.H = H2 ∧ Ext g1 g2 ∧ Wd K st2 g2 ∧ (∀ p ∈ ys2, Has K g2.F p.1 p.2) ∧
          KR no (fun (b : List PyData × Store) => ∃ d0, Kf (ys2.map (·.1) ++ b.1) = .ok d0 ∧ (ys2.map (·.1) ++ b.1).length ≤ LIM ∧ okE K ρ σ Q g (.p d0, b.2)) (lcG s gt tt fe (wipeV ρ vs) (s.ds.drop (i + 1)) st2),
        fun ys2 H2 ⟨st2, g2, q1, q2, q3, q4, q5⟩ => ⟨s.ds.length - (i + 1), by omega, st2, g2, q1, q2, q3, hlt, rfl, q4, q5⟩, fun x H2 hy => ?_⟩
      obtain ⟨g2, rfl, e2, w2, hx⟩ := yld i x H2 s.ds[i] (List.getElem?_eq_getElem hlt) hy
      refine ⟨wipeV ρ vs, st', g2, .p s.ds[i], rfl, ⟨w2, (sl'.ext e2).wipe vs⟩, hx, ?_⟩
      refine KR.mono (KR.bind k') (fun ρ1 h1 σ1 b1 r1' => ⟨wipe_but b1 hws, ρ1, st', g2, rfl, r1', ?_⟩) fun _ _ z => z
      refine KR.mono (KR.bind h1) (fun b hb g3 e3 r3 => ?_) fun _ _ z => z.elim
      obtain ⟨b, st3⟩ := b
      have E3 : Ext g1 g3 := (e'.trans e2).trans e3
      have E23 : Ext g' g3 := e2.trans e3
      cases b with
      | true =>
        rw [if_pos rfl]
        simp only [if_true] at hb
        refine ⟨ρ1, st3, g3, rfl, r3, KR.mono (KR.bind hb) (fun a ha v g4 e4 r4 hv => ?_) fun _ _ z => z.elim⟩
        obtain ⟨⟨d, st5⟩, px, k5⟩ := frz_bind ha
        obtain ⟨g5, eH, e5, r5, h5⟩ := frz_ok r4 hv px
        have E35 : Ext g' g5 := (E23.trans e4).trans e5
        have k6 := KR.bind k5
        have hall : ∀ p ∈ ys ++ [((d, v) : DV)], Has K g5.F p.1 p.2 := fun p hp => by
          rcases List.mem_append.mp hp with hp | hp
          · exact (hys p hp).mono E35.frz
          · rw [List.mem_singleton.mp hp]; exact h5
        refine ⟨d, ?_, st5, g5, by rw [eH], e'.trans E35, r5.wd, hall, ?_⟩
        · cases eq : lcG s gt tt fe (wipeV ρ vs) (List.drop (i + 1) s.ds) st5 with
          | bad => simp only [eq] at k6; exact k6.elim
          | exc n z => simp only [eq] at k6; exact k6.elim
          | ok b =>
            simp only [eq] at k6
            obtain ⟨d0, q1, q2, q3⟩ := k6
            rw [← eH]
            exact hcy _ d0 ys (d, v) b.1 g5 q1 q2 rfl hall r5.wd.sub
        · refine KR.mono k6 (fun b hb => ?_) fun _ _ z => z
          obtain ⟨d0, q1, q2, q3⟩ := hb
          rw [List.map_append, List.append_assoc]
          exact ⟨d0, q1, q2, q3⟩
      | false =>
        rw [if_neg Bool.false_ne_true]
        simp only [Bool.false_eq_true, if_false] at hb
        exact ⟨st3, g3, rfl, E3, r3.wd, fun p hp => (hys p hp).mono E23.frz, hb⟩
    · exact k'.elim
  · have ei : i = s.ds.length := by omega
    subst ei
    rw [List.drop_length] at k'
    unfold lcG at k'
    split at k'
    · rename_i ok
      obtain ⟨go, stop, yld⟩ := w1 st' g' e'.w w' ok
      obtain ⟨d0, q1, q2, q3⟩ := k'
      rw [List.append_nil] at q1 q2
      exact .inl ⟨stop _ (Nat.le_refl _), hql _ d0 ys g' ρ st' σ Q q1 q2 rfl hys ⟨w', sl'⟩ (okE.goes g g' _ (e1.trans e') q3)⟩
    · exact k'.elim
/-! ### the three -/
noncomputable def sumK (l : List PyData) : R PyData := match asInts l with
  | some ns => .ok (.int ns.sum)
  | none => .bad
noncomputable def mmK (f : PyData → List PyData → PyData) : List PyData → R PyData
  | x :: ds => if MmOk (x :: ds) then .ok (f x ds) else .bad
  | [] => .bad
def tupK (l : List PyData) : R PyData := .ok (.tuple l)
theorem asInts_app {l r : List PyData} {ns : List Int} (h : asInts (l ++ r) = some ns) : ∃ a b, asInts l = some a ∧ asInts r = some b ∧ ns = a ++ b := by
  induction l generalizing ns with
  | nil => exact ⟨[], ns, rfl, h, rfl⟩
  | cons d l ih =>
    cases d with
    | int i =>
      have h : (asInts (l ++ r)).map (i :: ·) = some ns := h
      cases e : asInts (l ++ r) with
      | none => rw [e] at h; cases h
      | some m =>
        rw [e] at h
        injection h with h
        obtain ⟨a, b, h1, h2, h3⟩ := ih e
        exact ⟨i :: a, b, by show (asInts l).map (i :: ·) = _; rw [h1]; rfl, h2, by rw [← h, h3]; rfl⟩
    | _ => cases h
section
variable {X : Cx} {W : Wish} {k : Nat} {elt tg iter : Expr} {ifs : List Expr} {scope : Scope} {own : List (Str × Nat)} {gpos p pos : Pos} {fi : FI} {gt : FG} {tt : FT} {fe : FE} {ws vs : List Nat} {c P : Addr}
theorem sum_read {K : PySem.W.Frag} {W : Wish} {wi : TI} (hP : (c, P) ∈ tabsOf K) (hws : ∀ j ∈ ws, j ∈ vs)
    (runI : ∀ ρ st σ g P, Rel K ρ st σ g → KR (WN K W ρ σ g) (okI K ρ σ P g) (fi ρ st) → wi σ g.H P) : RE K W (tSumG P wi (gOf K ws gt) (ttOf K noW tt) (tOf K noW fe) vs) (vGl sumK fi gt tt fe vs) := by
  refine gl_read (QF := fun Q ys H' => Q (.int (sumV ys)) H') hP hws (fun l n z => by unfold sumK; split <;> intro h <;> cases h) runI (fun l d0 ys y r g hk hl he hall hs => ?_) fun l d0 ys g ρ st σ Q hk hl he hall rel ok => ?_
  · unfold sumK at hk
    split at hk
    · rename_i ns e
      rw [he] at e
      obtain ⟨a, b, h1, h2, h3⟩ := asInts_app e
      obtain ⟨y1, y2⟩ := y
      have hy := hall (y1, y2) (List.mem_append_right _ (List.mem_singleton.mpr rfl))
      cases y1 with
      | int i => exact ⟨i, hy.int_inv⟩
      | _ => cases h2
    · cases hk
  · unfold sumK at hk
    split at hk
    · rename_i ns e
      injection hk with hk
      subst hk
      have : sumV ys = ns.sum := by
        subst he
        clear ok rel hl
        induction ys generalizing ns with
        | nil => injection e with e; rw [← e]; rfl
        | cons y ys ih =>
          obtain ⟨y1, y2⟩ := y
          have hy := hall (y1, y2) List.mem_cons_self
          cases y1 with
          | int i =>
            have e : (asInts (ys.map (·.1))).map (i :: ·) = some ns := e
            cases e2 : asInts (ys.map (·.1)) with
            | none => rw [e2] at e; cases e
            | some m =>
              rw [e2] at e
              injection e with e
              have := ih (fun p hp => hall p (List.mem_cons_of_mem _ hp)) m e2
              have hy2 : y2 = .int i := hy.int_inv
              rw [← e]
              show (List.map _ ((PyData.int i, y2) :: ys)).sum = (i :: m).sum
              rw [List.map_cons, List.sum_cons, List.sum_cons, hy2]
              unfold sumV at this
              rw [this]
          | _ => cases e
      rw [this]
      exact ok _ g (Ext.refl g) rel (show Has K g.F (.int ns.sum) (.int ns.sum) from .int _)
    · cases hk
theorem mm_read {K : PySem.W.Frag} {W : Wish} {wi : TI} {f : PyData → List PyData → PyData} (hP : (c, P) ∈ tabsOf K) (hws : ∀ j ∈ ws, j ∈ vs)
    (runI : ∀ ρ st σ g P, Rel K ρ st σ g → KR (WN K W ρ σ g) (okI K ρ σ P g) (fi ρ st) → wi σ g.H P) : RE K W (tMmG K f P wi (gOf K ws gt) (ttOf K noW tt) (tOf K noW fe) vs) (vGl (mmK f) fi gt tt fe vs) := by
  refine gl_read (QF := fun Q (ys : List DV) H' => ys ≠ [] ∧ ∀ x r q, ys = x :: r → q ∈ ys → q.1 = f x.1 (r.map (·.1)) → Q q.2 H') hP hws (fun l n z => by cases l with | nil => intro h; cases h | cons x l => intro h; have h : (if MmOk (x :: l) then R.ok (f x l) else .bad) = .exc n z := h; split at h <;> cases h) runI (fun l d0 ys y r g hk hl he hall hs => ?_) fun l d0 ys g ρ st σ Q hk hl he hall rel ok => ?_
  · refine ⟨g.F, hs, hall, ?_⟩
    have hm : MmOk l := by
      cases l with
      | nil => cases hk
      | cons x l =>
        have hk : (if MmOk (x :: l) then R.ok (f x l) else .bad) = .ok d0 := hk
        split at hk
        · assumption
        · cases hk
    have sub : ∀ d ∈ (ys ++ [y]).map (·.1), d ∈ l := fun d hd => by
      rw [he]
      rw [List.map_append] at hd
      rcases List.mem_append.mp hd with hd | hd
      · exact List.mem_append_left _ hd
      · exact List.mem_append_right _ (by rw [List.mem_singleton.mp hd]; exact List.mem_cons_self)
    unfold MmOk at hm ⊢
    simp only [Bool.and_eq_true, List.all_eq_true] at hm ⊢
    exact ⟨⟨fun d hd => hm.1.1 d (sub d hd), fun d hd d' hd' => hm.1.2 d (sub d hd) d' (sub d' hd')⟩, fun d hd => hm.2 d (sub d hd)⟩
  · subst he
    cases ys with
    | nil => cases hk
    | cons x r =>
      have hk : (if MmOk (x.1 :: r.map (·.1)) then R.ok (f x.1 (r.map (·.1))) else .bad) = .ok d0 := hk
      split at hk
      · injection hk with hk
        subst hk
        refine ⟨by simp, fun x' r' q e hq hqe => ?_⟩
        injection e with e1 e2
        subst e1 e2
        have hv := hall q hq
        rw [hqe] at hv
        exact ok _ g (Ext.refl g) rel hv
      · cases hk
theorem tup_read {W : Wish} {wi : TI} (hP : (c, P) ∈ tabsOf X.K) (hws : ∀ j ∈ ws, j ∈ vs)
    (runI : ∀ ρ st σ g P, Rel X.K ρ st σ g → KR (WN X.K W ρ σ g) (okI X.K ρ σ P g) (fi ρ st) → wi σ g.H P) : RE X.K W (tTupG P wi (gOf X.K ws gt) (ttOf X.K noW tt) (tOf X.K noW fe) vs) (vGl tupK fi gt tt fe vs) := by
  refine gl_read (QF := fun Q (ys : List DV) H' => ys.length ≤ sizeLine ∧ ∀ p, H' p = none → Q (.ref p) (upd H' p (.tup (ys.map fun q : DV => q.2)))) hP hws (fun l n z => by intro h; cases h) runI (fun l d0 ys y r g hk hl he hall hs => ?_) fun l d0 ys g ρ st σ Q hk hl he hall rel ok => ?_
  · rw [he] at hl
    simp only [List.length_append, List.length_map, List.length_cons] at hl
    show ys.length < sizeLine
    rw [lim_eq]; omega
  · injection hk with hk
    subst hk he
    rw [List.length_map] at hl
    refine ⟨by rw [lim_eq]; exact hl, fun p hp => ?_⟩
    exact ok (.ref p) (g.fz p (.tup _)) (ext_fz rel.wd hp) (rel.fz hp) (has_newT rel.wd hp (hasL_of hall))
abbrev GenV (X : Cx) (k : Nat) (elt tg : Expr) (ifs : List Expr) (scope : Scope) (ws : List Nat) (gt : FG) (tt : FT) (fe : FE) : Prop :=
  ∀ (A : Around) (s : Shared) (H : Hp) (C : Addr) (code : Value) (fp : List Addr), Room k (A.deeper (genEnv scope (cloFrom X.env.cells scope.names []) C code builtinsNs X.env)) →
    VG (genX X A s H (genEnv scope (cloFrom X.env.cells scope.names []) C code builtinsNs X.env) fp) ws tg gt ∧ VTs (genX X A s H (genEnv scope (cloFrom X.env.cells scope.names []) C code builtinsNs X.env) fp) noW ifs tt ∧ VE (genX X A s H (genEnv scope (cloFrom X.env.cells scope.names []) C code builtinsNs X.env) fp) noW elt fe
theorem ve_sumG (hr : Room (k + 3) X.A) (hc : X.calm = true) (hN : X.N.Nodup) (hg : Gl X "sum") (hm : X.mg "sum" = none) (TB : GxR.TabB X.base X.mg c P) (hP : (c, P) ∈ tabsOf X.K) (hcode : X.env.code = .ref c) (hi : VI X W tg iter fi) (ok : BlkOk X.N X.env.scope scope own)
    (hp : GenV X k elt tg ifs scope ws gt tt fe)
    (hws : ∀ j ∈ ws, j ∈ vs := by decide) (hvs : own.map (·.2) = vs := by rfl) (hcell : ∀ y ∈ scope.names, y.2 ≠ .cell := by decide +kernel) (hdot : scope.names.lookup (".0" : Str) = some NameKind.local := by rfl) (hco : scope.isCoroutine = false := by rfl) (hs : ∀ v, genFold iter X.env v = pure v := by intro _; rfl)
    (he : starEach [.GeneratorExp elt [⟨tg, iter, ifs, 0⟩] scope gpos] X.env = (false, eval (.GeneratorExp elt [⟨tg, iter, ifs, 0⟩] scope gpos) X.env) :: starEach [] X.env := by rfl) :
    VE X W (.Call (.Name "sum" p) [.GeneratorExp elt [⟨tg, iter, ifs, 0⟩] scope gpos] [] pos) (vGl sumK fi gt tt fe vs) := by
  subst hvs
  obtain ⟨wi, pi, runI⟩ := hi
  exact ⟨_, pe_sumG hr hc hN hg hm TB hcode pi ok hcell hdot hco (tt := ttOf X.K noW tt) (fun A s H C code fp r => ⟨(hp A s H C code fp r).1.pg, (hp A s H C code fp r).2.1, (hp A s H C code fp r).2.2.pe⟩) hs he, sum_read hP hws runI⟩
theorem ve_minG (hr : Room (k + 3) X.A) (hc : X.calm = true) (hu : X.A.units + 65 < cLine) (hN : X.N.Nodup) (hg : Gl X "min") (hm : X.mg "min" = none) (TB : GxR.TabB X.base X.mg c P) (hP : (c, P) ∈ tabsOf X.K) (hcode : X.env.code = .ref c) (hi : VI X W tg iter fi) (ok : BlkOk X.N X.env.scope scope own)
    (hp : GenV X k elt tg ifs scope ws gt tt fe)
    (hws : ∀ j ∈ ws, j ∈ vs := by decide) (hvs : own.map (·.2) = vs := by rfl) (hcell : ∀ y ∈ scope.names, y.2 ≠ .cell := by decide +kernel) (hdot : scope.names.lookup (".0" : Str) = some NameKind.local := by rfl) (hco : scope.isCoroutine = false := by rfl) (hs : ∀ v, genFold iter X.env v = pure v := by intro _; rfl)
    (he : starEach [.GeneratorExp elt [⟨tg, iter, ifs, 0⟩] scope gpos] X.env = (false, eval (.GeneratorExp elt [⟨tg, iter, ifs, 0⟩] scope gpos) X.env) :: starEach [] X.env := by rfl) :
    VE X W (.Call (.Name "min" p) [.GeneratorExp elt [⟨tg, iter, ifs, 0⟩] scope gpos] [] pos) (vGl (mmK minD) fi gt tt fe vs) := by
  subst hvs
  obtain ⟨wi, pi, runI⟩ := hi
  exact ⟨_, pe_minG hr hc hu hN hg hm TB hcode pi ok hcell hdot hco (tt := ttOf X.K noW tt) (fun A s H C code fp r => ⟨(hp A s H C code fp r).1.pg, (hp A s H C code fp r).2.1, (hp A s H C code fp r).2.2.pe⟩) hs he, mm_read hP hws runI⟩
theorem ve_maxG (hr : Room (k + 3) X.A) (hc : X.calm = true) (hu : X.A.units + 65 < cLine) (hN : X.N.Nodup) (hg : Gl X "max") (hm : X.mg "max" = none) (TB : GxR.TabB X.base X.mg c P) (hP : (c, P) ∈ tabsOf X.K) (hcode : X.env.code = .ref c) (hi : VI X W tg iter fi) (ok : BlkOk X.N X.env.scope scope own)
    (hp : GenV X k elt tg ifs scope ws gt tt fe)
    (hws : ∀ j ∈ ws, j ∈ vs := by decide) (hvs : own.map (·.2) = vs := by rfl) (hcell : ∀ y ∈ scope.names, y.2 ≠ .cell := by decide +kernel) (hdot : scope.names.lookup (".0" : Str) = some NameKind.local := by rfl) (hco : scope.isCoroutine = false := by rfl) (hs : ∀ v, genFold iter X.env v = pure v := by intro _; rfl)
    (he : starEach [.GeneratorExp elt [⟨tg, iter, ifs, 0⟩] scope gpos] X.env = (false, eval (.GeneratorExp elt [⟨tg, iter, ifs, 0⟩] scope gpos) X.env) :: starEach [] X.env := by rfl) :
    VE X W (.Call (.Name "max" p) [.GeneratorExp elt [⟨tg, iter, ifs, 0⟩] scope gpos] [] pos) (vGl (mmK maxD) fi gt tt fe vs) := by
  subst hvs
  obtain ⟨wi, pi, runI⟩ := hi
  exact ⟨_, pe_maxG hr hc hu hN hg hm TB hcode pi ok hcell hdot hco (tt := ttOf X.K noW tt) (fun A s H C code fp r => ⟨(hp A s H C code fp r).1.pg, (hp A s H C code fp r).2.1, (hp A s H C code fp r).2.2.pe⟩) hs he, mm_read hP hws runI⟩
theorem ve_tupG (hr : Room (k + 5) X.A) (hc : X.calm = true) (hN : X.N.Nodup) (hg : Gl X "tuple") (hm : X.mg "tuple" = none) (TB : GxR.TabB X.base X.mg c P) (hP : (c, P) ∈ tabsOf X.K) (hcode : X.env.code = .ref c) (hi : VI X W tg iter fi) (ok : BlkOk X.N X.env.scope scope own)
    (hp : GenV X k elt tg ifs scope ws gt tt fe)
    (hws : ∀ j ∈ ws, j ∈ vs := by decide) (hvs : own.map (·.2) = vs := by rfl) (hcell : ∀ y ∈ scope.names, y.2 ≠ .cell := by decide +kernel) (hdot : scope.names.lookup (".0" : Str) = some NameKind.local := by rfl) (hco : scope.isCoroutine = false := by rfl) (hs : ∀ v, genFold iter X.env v = pure v := by intro _; rfl)
    (he : starEach [.GeneratorExp elt [⟨tg, iter, ifs, 0⟩] scope gpos] X.env = (false, eval (.GeneratorExp elt [⟨tg, iter, ifs, 0⟩] scope gpos) X.env) :: starEach [] X.env := by rfl) :
    VE X W (.Call (.Name "tuple" p) [.GeneratorExp elt [⟨tg, iter, ifs, 0⟩] scope gpos] [] pos) (vGl tupK fi gt tt fe vs) := by
  subst hvs
  obtain ⟨wi, pi, runI⟩ := hi
  exact ⟨_, pe_tupG hr hc hN hg hm TB hcode pi ok hcell hdot hco (tt := ttOf X.K noW tt) (fun A s H C code fp r => ⟨(hp A s H C code fp r).1.pg, (hp A s H C code fp r).2.1, (hp A s H C code fp r).2.2.pe⟩) hs he, tup_read hP hws runI⟩
end
end VL

/-! meanings computed by rules, forwards: each rule's answer comes out of its parts' -/
namespace VL
open PySem PySem.Spec PyProof.Rows L2
/-- a slot is written -/
def SetK (ρ : Slots) (i : Nat) (v : Vd) (ρ' : Slots) : Prop := ρ.set i (some v) = ρ'
theorem SetK.z {o : Option Vd} {ρ : Slots} {v : Vd} : SetK (o :: ρ) 0 v (some v :: ρ) := rfl
theorem SetK.s {o : Option Vd} {ρ ρ' : Slots} {i : Nat} {v : Vd} (h : SetK ρ i v ρ') : SetK (o :: ρ) (i + 1) v (o :: ρ') := by unfold SetK at *; rw [List.set_cons_succ, h]
/-- a choice by what is known -/
def IfK {α : Type} (b : Bool) (x y r : α) : Prop := (if b = true then x else y) = r
section
variable {α : Type} {x y r : α} {b : Bool} {p : Prop} [Decidable p]
theorem IfK.t (h : x = r) : IfK true x y r := h
theorem IfK.f (h : y = r) : IfK false x y r := h
theorem IfK.dt (hp : p) (h : x = r) : IfK (decide p) x y r := by unfold IfK; rw [decide_eq_true hp]; exact h
theorem IfK.df (hp : ¬ p) (h : y = r) : IfK (decide p) x y r := by unfold IfK; rw [decide_eq_false hp]; exact h
theorem IfK.bt (hb : b = true) (h : x = r) : IfK b x y r := by unfold IfK; rw [hb]; exact h
theorem IfK.bf (hb : b = false) (h : y = r) : IfK b x y r := by unfold IfK; rw [hb]; exact h
theorem IfK.nt (h : IfK b y x r) : IfK (!b) x y r := by cases b <;> exact h
theorem IfK.xt (h : IfK b x y r) : IfK (b != false) x y r := by cases b <;> exact h
theorem IfK.xf (h : IfK b y x r) : IfK (b != true) x y r := by cases b <;> exact h
theorem IfK.both (h1 : b = true → x = r) (h2 : b = false → y = r) : IfK b x y r := by cases b <;> first | exact h1 rfl | exact h2 rfl
end
section
variable {ρ ρ' ρ1 : Slots} {st st1 st2 st3 st4 : Store} {f h k : FE} {fa : FA} {fi : FI} {gt : FG} {gs : FGs} {c c' : FT} {sf sh : FS} {a b v w : Vd} {x y d e : PyData} {as : List Vd} {ds l : List PyData} {ob : Ob} {n : FN} {t t' : Bool} {i : Nat}
theorem ev_var (hv : ρ[i]? = some (some v)) : vVar i ρ st = .ok (v, st) := vVar_ap ρ st i hv
theorem ev_c : vC d ρ st = .ok (.p d, st) := rfl
theorem ev_bin {o : PyData → PyData → R PyData} (h1 : f ρ st = .ok (a, st1)) (h2 : h ρ st1 = .ok (b, st2)) (p1 : peek st2 a = .ok x) (p2 : peek st2 b = .ok y) (ho : o x y = .ok d) : vBin o f h ρ st = .ok (.p d, st2) := by
  rw [vBin_ap, h1, R.ok_bind, h2, R.ok_bind, p1, R.ok_bind, p2, R.ok_bind, ho]; rfl
theorem ev_binD {o : Store → Vd → Vd → R PyData} (h1 : f ρ st = .ok (a, st1)) (h2 : h ρ st1 = .ok (b, st2)) (ho : o st2 a b = .ok d) : vBinD o f h ρ st = .ok (.p d, st2) := by
  rw [vBinD_ap, h1, R.ok_bind, h2, R.ok_bind, ho]; rfl
theorem ev_un {o : PyData → R PyData} (h1 : f ρ st = .ok (a, st1)) (p1 : peek st1 a = .ok x) (ho : o x = .ok d) : vUn o f ρ st = .ok (.p d, st1) := by
  rw [vUn_ap, h1, R.ok_bind, p1, R.ok_bind, ho]; rfl
theorem ev_call {o : List PyData → R PyData} (h1 : fa ρ st = .ok (as, st1)) (p1 : peekL st1 as = .ok ds) (ho : o ds = .ok d) : vCall o fa ρ st = .ok (.p d, st1) := by
  rw [vCall_ap, h1, R.ok_bind, p1, R.ok_bind, ho]; rfl
theorem ea_nil : aNil ρ st = .ok ([], st) := rfl
theorem ea_cons (h1 : f ρ st = .ok (a, st1)) (h2 : fa ρ st1 = .ok (as, st2)) : aCons f fa ρ st = .ok (a :: as, st2) := by rw [aCons_ap, h1, R.ok_bind, h2]; rfl
theorem ea_star (h1 : f ρ st = .ok (a, st1)) (p1 : peek st1 a = .ok x) (hi : itemsOf x = some ds) (h2 : fa ρ st1 = .ok (as, st2)) : aStar f fa ρ st = .ok (ds.map .p ++ as, st2) := by
  show (f ρ st >>= fun a => peek a.2 a.1 >>= fun d => optR (itemsOf d) >>= fun ds => fa ρ a.2 >>= fun b => .ok (ds.map .p ++ b.1, b.2)) = _
  rw [h1, R.ok_bind, p1, R.ok_bind, hi, optR_some, R.ok_bind, h2]; rfl
theorem ev_def {m : FM} {q : Nat} (h1 : fa ρ st = .ok (as, st1)) (hl : as.length = q) (hm : m as st1 = .ok (v, st2)) : vDef q m fa ρ st = .ok (v, st2) := by
  rw [vDef_ap, h1, R.ok_bind, if_pos hl, hm]; rfl
theorem fzL_nil : frzL [] st = .ok ([], st) := rfl
theorem fzL_cons (h1 : frz st v = .ok (d, st1)) (h2 : frzL as st1 = .ok (ds, st2)) : frzL (v :: as) st = .ok (d :: ds, st2) := by rw [frzL_cons, h1, R.ok_bind, h2]; rfl
theorem fzL_star (h2 : frzL as st = .ok (ds, st1)) : frzL (l.map .p ++ as) st = .ok (l ++ ds, st1) := by
  induction l with
  | nil => exact h2
  | cons x l ih => exact fzL_cons (frz_p st x) ih
theorem pkL_nil : peekL st [] = .ok [] := rfl
theorem pkL_cons (h1 : peek st v = .ok d) (h2 : peekL st as = .ok ds) : peekL st (v :: as) = .ok (d :: ds) := by rw [peekL_cons, h1, R.ok_bind, h2]; rfl
theorem ev_tup (h1 : fa ρ st = .ok (as, st1)) (hf : frzL as st1 = .ok (ds, st2)) (hl : ds.length ≤ LIM) : vTup fa ρ st = .ok (.p (.tuple ds), st2) := by
  rw [vTup_ap, fzA_ap, h1, R.ok_bind, hf, R.ok_bind, if_pos hl]
theorem en_lst (h1 : fa ρ st = .ok (as, st1)) (hf : frzL as st1 = .ok (ds, st2)) (hl : ds.length ≤ LIM) : nLst fa ρ st = .ok (.lst ds, st2) := by
  rw [nLst_ap, fzA_ap, h1, R.ok_bind, hf, R.ok_bind, if_pos hl]
theorem ev_fzL (h1 : n ρ st = .ok (.lst ds, st1)) : vFz n ρ st = .ok (.p (.list ds), st1) := by rw [vFz_ap, h1]; rfl
theorem ev_own0 (h1 : n ρ st = .ok (ob, [])) : vOwn n ρ st = .ok (.loc 0, [ob]) := by rw [vOwn_ap, h1]; rfl
theorem ev_own1 {o1 : Ob} (h1 : n ρ st = .ok (ob, [o1])) : vOwn n ρ st = .ok (.loc 1, [o1, ob]) := by rw [vOwn_ap, h1]; rfl
theorem ev_own2 {o1 o2 : Ob} (h1 : n ρ st = .ok (ob, [o1, o2])) : vOwn n ρ st = .ok (.loc 2, [o1, o2, ob]) := by rw [vOwn_ap, h1]; rfl
theorem ev_own (h1 : n ρ st = .ok (ob, st1)) : vOwn n ρ st = .ok (.loc st1.length, st1 ++ [ob]) := by rw [vOwn_ap, h1]; rfl
theorem en_dct : nDct t ρ st = .ok (.dct t [], st) := rfl
theorem en_listOf (h1 : f ρ st = .ok (a, st1)) (p1 : peek st1 a = .ok x) (hi : itemsOf x = some ds) : nListOf f ρ st = .ok (.lst ds, st1) := by
  rw [nListOf_ap, h1, R.ok_bind, p1, R.ok_bind, hi]; rfl
theorem ev_asB (h1 : f ρ st = .ok (.p (.bool t), st1)) : asB f ρ st = .ok (t, st1) := by rw [asB_ap, h1]; rfl
theorem ev_tru (h1 : f ρ st = .ok (a, st1)) (p1 : peek st1 a = .ok x) (ht : truP x = .ok t) : vTru f ρ st = .ok (t, st1) := by rw [vTru_ap, h1, R.ok_bind, p1, R.ok_bind, ht]; rfl
theorem ev_not (h1 : c ρ st = .ok (t, st1)) : tNot c ρ st = .ok (!t, st1) := by rw [tNot_ap, h1]; rfl
theorem ev_and {r : R (Bool × Store)} (h1 : c ρ st = .ok (t, st1)) (h2 : IfK t (c' ρ st1) (.ok (false, st1)) r) : vAnd c c' ρ st = r := by rw [vAnd_ap, h1]; exact h2
theorem ev_or {r : R (Bool × Store)} (h1 : c ρ st = .ok (t, st1)) (h2 : IfK t (.ok (true, st1)) (c' ρ st1) r) : vOr c c' ρ st = r := by rw [vOr_ap, h1]; exact h2
theorem ev_andG (h1 : c ρ st = .ok (t, st1)) (h2 : t = true → c' ρ st1 = .ok (t', st1)) : vAnd c c' ρ st = .ok (t && t', st1) := by
  rw [vAnd_ap, h1, R.ok_bind]
  cases t with
  | true => rw [if_pos rfl, h2 rfl]; rfl
  | false => rfl
theorem ev_orG (h1 : c ρ st = .ok (t, st1)) (h2 : t = false → c' ρ st1 = .ok (t', st1)) : vOr c c' ρ st = .ok (t || t', st1) := by
  rw [vOr_ap, h1, R.ok_bind]
  cases t with
  | false => rw [if_neg Bool.false_ne_true, h2 rfl]; rfl
  | true => rfl
theorem ev_andV {r : R (Vd × Store)} (h1 : f ρ st = .ok (.p (.bool t), st1)) (h2 : IfK t (h ρ st1) (.ok (.p (.bool false), st1)) r) : vAndV f h ρ st = r := by rw [vAndV_ap, ev_asB h1]; exact h2
theorem ev_orV {r : R (Vd × Store)} (h1 : f ρ st = .ok (.p (.bool t), st1)) (h2 : IfK t (.ok (.p (.bool true), st1)) (h ρ st1) r) : vOrV f h ρ st = r := by rw [vOrV_ap, ev_asB h1]; exact h2
theorem ev_andVG (h1 : f ρ st = .ok (.p (.bool t), st1)) (h2 : t = true → h ρ st1 = .ok (.p (.bool t'), st1)) : vAndV f h ρ st = .ok (.p (.bool (t && t')), st1) := by
  rw [vAndV_ap, ev_asB h1, R.ok_bind]
  cases t with
  | true => rw [if_pos rfl, h2 rfl]; rfl
  | false => rfl
theorem ev_orVG (h1 : f ρ st = .ok (.p (.bool t), st1)) (h2 : t = false → h ρ st1 = .ok (.p (.bool t'), st1)) : vOrV f h ρ st = .ok (.p (.bool (t || t')), st1) := by
  rw [vOrV_ap, ev_asB h1, R.ok_bind]
  cases t with
  | false => rw [if_neg Bool.false_ne_true, h2 rfl]; rfl
  | true => rfl
theorem ev_notV (h1 : f ρ st = .ok (.p (.bool t), st1)) : vNotV f ρ st = .ok (.p (.bool (!t)), st1) := by rw [vNotV_ap, ev_asB h1]; rfl
theorem ev_if {r : R (Vd × Store)} (h1 : c ρ st = .ok (t, st1)) (h2 : IfK t (f ρ st1) (h ρ st1) r) : vIf c f h ρ st = r := by rw [vIf_ap, h1]; exact h2
theorem ev_ifG (h1 : c ρ st = .ok (t, st1)) (h2 : t = true → f ρ st1 = .ok (.p x, st1)) (h3 : t = false → h ρ st1 = .ok (.p y, st1)) : vIf c f h ρ st = .ok (.p (if t = true then x else y), st1) := by
  rw [vIf_ap, h1, R.ok_bind]
  cases t with
  | true => rw [if_pos rfl, if_pos rfl, h2 rfl]
  | false => rw [if_neg Bool.false_ne_true, if_neg Bool.false_ne_true, h3 rfl]
theorem ev_chainG {o o' : PyData → PyData → R PyData} {z : PyData} (h1 : f ρ st = .ok (a, st1)) (h2 : h ρ st1 = .ok (b, st2)) (p1 : peek st2 a = .ok x) (p2 : peek st2 b = .ok y) (ho : o x y = .ok (.bool t)) (h3 : k ρ st2 = .ok (w, st2)) (p3 : peek st2 w = .ok z) (ho' : o' y z = .ok (.bool t')) :
    vChain o o' f h k ρ st = .ok (.p (.bool (t && t')), st2) := by
  unfold vChain
  rw [h1, R.ok_bind, h2, R.ok_bind, p1, R.ok_bind, p2, R.ok_bind, ho, R.ok_bind]
  cases t with
  | true =>
    show (k ρ st2 >>= _) = _
    rw [h3, R.ok_bind]
    show (peek st2 b >>= _) = _
    rw [p2, R.ok_bind, p3, R.ok_bind, ho']; rfl
  | false => rfl
theorem eo_none : oNone ρ st = .ok (none, st) := rfl
theorem eo_some {j : Int} (h1 : f ρ st = .ok (.p (.int j), st1)) : oSome f ρ st = .ok (some j, st1) := by rw [oSome_ap, h1]; rfl
theorem ev_sl {lo hi : FO} {i j : Option Int} (h1 : f ρ st = .ok (a, st1)) (h2 : lo ρ st1 = .ok (i, st2)) (h3 : hi ρ st2 = .ok (j, st3)) (p1 : peek st3 a = .ok x) (ho : slP x i j = .ok d) : vSl f lo hi ρ st = .ok (.p d, st3) := by
  rw [vSl_ap, h1, R.ok_bind, h2, R.ok_bind, h3, R.ok_bind, p1, R.ok_bind, ho]; rfl
theorem ev_mth {ty : Store → Vd → Bool} {M : Store → Vd → List Vd → R (Vd × Store)} (h1 : f ρ st = .ok (a, st1)) (ht : ty st1 a = true) (h2 : fa ρ st1 = .ok (as, st2)) (hm : M st2 a as = .ok (v, st3)) : vMth ty M f fa ρ st = .ok (v, st3) := by
  rw [vMth_ap, h1, R.ok_bind, if_pos ht, h2, R.ok_bind, hm]
/-! what is walked -/
theorem ei_seq {s : Src} (h1 : f ρ st = .ok (a, st1)) (hs : srcOf st1 a = .ok s) : iSeq f ρ st = .ok (s, st1) := by rw [iSeq_ap, h1, R.ok_bind, hs]; rfl
theorem ei_range1 {j : Int} (h1 : f ρ st = .ok (.p (.int j), st1)) (hj : In62 j) : iRange1 f ρ st = .ok (⟨rangeD 0 j, none⟩, st1) := by rw [iRange1_ap, h1, R.ok_bind]; exact if_pos hj
theorem ei_range2 {j m : Int} (h1 : f ρ st = .ok (.p (.int j), st1)) (h2 : h ρ st1 = .ok (.p (.int m), st2)) (hj : In62 j ∧ In62 m) : iRange2 f h ρ st = .ok (⟨rangeD j m, none⟩, st2) := by rw [iRange2_ap, h1, R.ok_bind, h2, R.ok_bind]; exact if_pos hj
/-- the numbers below n, as data -/
abbrev natD (i : Nat) : PyData := .int (i : Int)
theorem ei_rangeN {j : Nat} (h1 : f ρ st = .ok (.p (.int (j : Int)), st1)) (hj : j ≤ 1000000) : iRange1 f ρ st = .ok (⟨(List.range j).map natD, none⟩, st1) := by
  rw [ei_range1 h1 (in62 (by omega) (by omega)), rangeD_nat]
theorem ei_enumL (h1 : f ρ st = .ok (.p (.list ds), st1)) : iEnum f ρ st = .ok (⟨enumD ds, none⟩, st1) := by rw [iEnum_ap, h1]; rfl
theorem ei_enumT (h1 : f ρ st = .ok (.p (.tuple ds), st1)) : iEnum f ρ st = .ok (⟨enumD ds, none⟩, st1) := by rw [iEnum_ap, h1]; rfl
theorem ei_zipL (h1 : f ρ st = .ok (.p (.list ds), st1)) (h2 : h ρ st1 = .ok (.p (.list l), st2)) : iZip f h ρ st = .ok (⟨zipD ds l, none⟩, st2) := by rw [iZip_ap, h1, R.ok_bind, h2]; rfl
theorem ei_zipT (h1 : f ρ st = .ok (.p (.tuple ds), st1)) (h2 : h ρ st1 = .ok (.p (.tuple l), st2)) : iZip f h ρ st = .ok (⟨zipD ds l, none⟩, st2) := by rw [iZip_ap, h1, R.ok_bind, h2]; rfl
theorem ei_revL (h1 : f ρ st = .ok (.p (.list ds), st1)) : iRev f ρ st = .ok (⟨ds.reverse, none⟩, st1) := by show (f ρ st >>= _) = _; rw [h1]; rfl
theorem ei_revT (h1 : f ρ st = .ok (.p (.tuple ds), st1)) : iRev f ρ st = .ok (⟨ds.reverse, none⟩, st1) := by show (f ρ st >>= _) = _; rw [h1]; rfl
/-! targets -/
theorem eg_set (hs : SetK ρ i v ρ') : gSet i v ρ st = .ok ρ' := by rw [gSet_ap]; exact congrArg R.ok hs
theorem eg_tup {q : Nat} (p1 : peek st v = .ok x) (hi : itemsOf x = some ds) (hl : ds.length = q) (hg : gs (ds.map .p) ρ st = .ok ρ') : gTupV q gs v ρ st = .ok ρ' := by
  rw [gTupV_ap, p1, R.ok_bind, hi, optR_some, R.ok_bind, if_pos hl, hg]
theorem eg_nil {L : List Vd} (e : L = []) : gsNil L ρ st = .ok ρ := by subst e; rfl
theorem eg_cons {L : List Vd} {r : List Vd} (e : L = v :: r) (h1 : gt v ρ st = .ok ρ1) (h2 : gs r ρ1 st = .ok ρ') : gsCons gt gs L ρ st = .ok ρ' := by subst e; rw [gsCons_ap, h1, R.ok_bind, h2]
/-! statements -/
def SeqK (o : Out) (ρ : Slots) (st : Store) (x r : RS) : Prop := (match o with | .nx => x | o => .ok (o, ρ, st)) = r
theorem SeqK.nx {x r : RS} (hx : x = r) : SeqK .nx ρ st x r := hx
theorem SeqK.rt {xx : RS} : SeqK (.rt v) ρ st xx (.ok (.rt v, ρ, st)) := rfl
theorem SeqK.ct {xx : RS} : SeqK .ct ρ st xx (.ok (.ct, ρ, st)) := rfl
theorem SeqK.bk {xx : RS} : SeqK .bk ρ st xx (.ok (.bk, ρ, st)) := rfl
theorem es_seq {o : Out} {r : RS} (h1 : sf ρ st = .ok (o, ρ1, st1)) (h2 : SeqK o ρ1 st1 (sh ρ1 st1) r) : sSeq sf sh ρ st = r := by
  rw [sSeq_ap, h1, R.ok_bind]
  cases o <;> exact h2
theorem es_nil : sNil ρ st = .ok (.nx, ρ, st) := rfl
theorem es_ct : sCt ρ st = .ok (.ct, ρ, st) := rfl
theorem es_bk : sBk ρ st = .ok (.bk, ρ, st) := rfl
theorem es_retN : sRetN ρ st = .ok (.rt (.p .none), ρ, st) := rfl
theorem es_if {r : RS} (h1 : c ρ st = .ok (t, st1)) (h2 : IfK t (sf ρ st1) (sh ρ st1) r) : sIf c sf sh ρ st = r := by rw [sIf_ap, h1, liftS_ok]; exact h2
theorem es_set (h1 : f ρ st = .ok (v, st1)) (hs : SetK ρ i v ρ') : sSet i f ρ st = .ok (.nx, ρ', st1) := by rw [sSet_ap, h1, liftS_ok]; show R.ok (_, ρ.set i (some v), _) = _; rw [show ρ.set i (some v) = ρ' from hs]
theorem es_ret (h1 : f ρ st = .ok (v, st1)) : sRet f ρ st = .ok (.rt v, ρ, st1) := by rw [sRet_ap, h1, liftS_ok]
theorem es_expr (h1 : f ρ st = .ok (v, st1)) : sExpr f ρ st = .ok (.nx, ρ, st1) := by rw [sExpr_ap, h1, liftS_ok]
theorem es_asg (h1 : f ρ st = .ok (v, st1)) (hg : gt v ρ st1 = .ok ρ') : sAsg f gt ρ st = .ok (.nx, ρ', st1) := by rw [sAsg_ap, h1, liftS_ok, hg]; rfl
theorem es_asgT {q : Nat} (h1 : fa ρ st = .ok (as, st1)) (hl : as.length = q ∧ q ≤ LIM) (hg : gs as ρ st1 = .ok ρ') : sAsgT fa q gs ρ st = .ok (.nx, ρ', st1) := by rw [sAsgT_ap, h1, liftS_ok, if_pos hl, hg]; rfl
theorem es_asgS2 {i j : Nat} (h1 : fa ρ st = .ok ([a, b], st1)) (s1 : SetK ρ j b ρ1) (s2 : SetK ρ1 i a ρ') : sAsgS fa [i, j] ρ st = .ok (.nx, ρ', st1) := by
  rw [sAsgS_ap, h1, liftS_ok]
  unfold SetK at s1 s2
  rw [if_pos ⟨rfl, by show 2 ≤ LIM; decide⟩]
  show R.ok (_, setsV ρ [j, i] [b, a], _) = _
  rw [setsV_cons, setsV_cons, setsV_nil, s1, s2]
theorem es_asgS3 {i j k' : Nat} {ρ2 : Slots} (h1 : fa ρ st = .ok ([a, b, v], st1)) (s0 : SetK ρ k' v ρ2) (s1 : SetK ρ2 j b ρ1) (s2 : SetK ρ1 i a ρ') : sAsgS fa [i, j, k'] ρ st = .ok (.nx, ρ', st1) := by
  rw [sAsgS_ap, h1, liftS_ok]
  unfold SetK at s0 s1 s2
  rw [if_pos ⟨rfl, by show 3 ≤ LIM; decide⟩]
  show R.ok (_, setsV ρ [k', j, i] [v, b, a], _) = _
  rw [setsV_cons, setsV_cons, setsV_cons, setsV_nil, s0, s1, s2]
theorem es_put {st' : Store} (hv : f ρ st = .ok (v, st1)) (ho : h ρ st1 = .ok (a, st2)) (hi : k ρ st2 = .ok (b, st3)) (hp : peek st3 b = .ok x) (hf : frz st3 v = .ok (d, st4)) (hs : putS st4 a x d = .ok st') : sPut f h k ρ st = .ok (.nx, ρ, st') := by
  rw [sPut_ap, hv, liftS_ok, ho, liftS_ok, hi, liftS_ok]
  show (peek st3 b >>= _) = _
  rw [hp, R.ok_bind, hf, R.ok_bind, hs]; rfl
theorem es_aug {o : PyData → PyData → R PyData} (hx : ρ[i]? = some (some a)) (h1 : f ρ st = .ok (b, st1)) (p1 : peek st1 a = .ok x) (p2 : peek st1 b = .ok y) (ho : o x y = .ok d) (hs : SetK ρ i (.p d) ρ') : sAug i o f ρ st = .ok (.nx, ρ', st1) := by
  rw [sAug_ap ρ st f i o hx, h1, liftS_ok, p1, R.ok_bind, p2, R.ok_bind, ho, R.ok_bind]
  unfold SetK at hs
  rw [hs]
theorem es_augS {op : PyData → PyData → R PyData} {fo fi' fe : FE} {z u : PyData} {st' : Store} (h1 : fo ρ st = .ok (a, st1)) (h2 : fi' ρ st1 = .ok (b, st2)) (p1 : peek st2 b = .ok x) (hg : getI st2 a x = .ok y) (h3 : fe ρ st2 = .ok (v, st3)) (p2 : peek st3 v = .ok z) (ho : op y z = .ok d) (hs : putS st3 a x d = .ok st') :
    sAugS op fo fi' fe ρ st = .ok (.nx, ρ, st') := by
  show liftS ρ (fo ρ st) _ = _
  rw [h1, liftS_ok]
  show liftS ρ (fi' ρ st1) _ = _
  rw [h2, liftS_ok]
  show (peek st2 b >>= _) = _
  rw [p1, R.ok_bind, hg, R.ok_bind, h3, liftS_ok]
  show (peek st3 v >>= _) = _
  rw [p2, R.ok_bind, ho, R.ok_bind, hs]; rfl
theorem es_augL {j : Nat} {st' : Store} (hx : ρ[i]? = some (some (.loc j))) (h1 : f ρ st = .ok (b, st1)) (p1 : peek st1 b = .ok x) (hi : itemsOf x = some ds) (hj : st1[j]? = some (.lst l)) (hl : l.length + ds.length ≤ LIM) (hs : st1.set j (.lst (l ++ ds)) = st') : sAugL i f ρ st = .ok (.nx, ρ, st') := by
  unfold sAugL
  rw [hx]
  show liftS ρ (f ρ st) _ = _
  rw [h1, liftS_ok]
  show (peek st1 b >>= _) = _
  rw [p1, R.ok_bind, hi, hj]
  show (if _ then _ else _) = _
  rw [if_pos hl, hs]
theorem es_for {r : RS} (h1 : fi ρ st = .ok (⟨l, none⟩, st1)) (h2 : forG ⟨l, none⟩ gt sf l ρ st1 = r) : sFor fi gt sf ρ st = r := by rw [sFor_ap, h1, liftS_ok]; exact h2
/-! defs -/
theorem ed_entry {N q : Nat} {lv : Nat → Vd → Store → R (Vd × Store)} {o : Out} {r : R (Vd × Store)} (hl : as.length = q) (h1 : sf (as.map some ++ List.replicate (N - q) none) st = .ok (o, ρ1, st1)) (h2 : outM lv st.length (o, ρ1, st1) = r) : entry N q lv sf as st = r := by
  rw [entry_ap N q lv sf as st hl, h1]; exact h2
theorem ed_rtF {m : Nat} : outM leaveF m (.rt (.p d), ρ, st) = .ok (.p d, st.take m) := rfl
theorem ed_nxF {m : Nat} : outM leaveF m (.nx, ρ, st) = .ok (.p .none, st.take m) := rfl
theorem ed_rtN {m : Nat} : outM leaveN m (.rt (.p d), ρ, st) = .ok (.p d, st.take m) := rfl
theorem ed_rtF' {m : Nat} (hm : st.length = m) : outM leaveF m (.rt (.p d), ρ, st) = .ok (.p d, st) := by subst hm; rw [ed_rtF, List.take_length]
theorem ed_nxF' {m : Nat} (hm : st.length = m) : outM leaveF m (.nx, ρ, st) = .ok (.p .none, st) := by subst hm; rw [ed_nxF, List.take_length]
theorem ed_rtN' {m : Nat} (hm : st.length = m) : outM leaveN m (.rt (.p d), ρ, st) = .ok (.p d, st) := by subst hm; rw [ed_rtN, List.take_length]
theorem ed_rtF1 {m : Nat} {L : Store} (hm : L.length = m) : outM leaveF m (.rt (.p d), ρ, L ++ [ob]) = .ok (.p d, L) := by subst hm; rw [ed_rtF, List.take_left]
/-! comprehensions, all, any -/
section
variable {α : Type} {src : List α} {cc F : α → PyData} {bb : α → Bool} {fe : FE} {tt : FT} {vs : List Nat}
theorem lcG_filterA {src' : List PyData} : ∀ {ds : List α}, (∀ a ∈ ds, ∃ ρ1, gt (.p (cc a)) ρ st = .ok ρ1 ∧ tt ρ1 st = .ok (bb a, st) ∧ (bb a = true → fe ρ1 st = .ok (.p (F a), st))) → lcG ⟨src', none⟩ gt tt fe ρ (ds.map cc) st = .ok ((ds.filter bb).map F, st)
  | [], _ => by simp
  | d :: r, h => by
    obtain ⟨ρ1, h1, h2, h3⟩ := h d List.mem_cons_self
    have ih := lcG_filterA (src' := src') (fun x hx => h x (List.mem_cons_of_mem _ hx))
    rw [List.map_cons, lcG_cons, h1]
    cases hb : bb d with
    | true => simp [h2, hb, h3 hb, ih]
    | false => simp [h2, hb, ih]
theorem en_lcF (h1 : fi ρ st = .ok (⟨src.map cc, none⟩, st1)) (hb : ∀ a ∈ src, ∃ ρ1, gt (.p (cc a)) (wipeV ρ vs) st1 = .ok ρ1 ∧ tt ρ1 st1 = .ok (bb a, st1) ∧ (bb a = true → fe ρ1 st1 = .ok (.p (F a), st1))) (hl : src.length ≤ LIM) : nLc fi gt tt fe vs ρ st = .ok (.lst ((src.filter bb).map F), st1) := by
  rw [nLc_ap, h1, R.ok_bind, lcG_filterA hb, R.only_ok, if_pos]
  rw [List.length_map]
  exact Nat.le_trans (List.length_filter_le _ _) hl
theorem en_lcM (h1 : fi ρ st = .ok (⟨src.map cc, none⟩, st1)) (hb : ∀ a ∈ src, ∃ ρ1, gt (.p (cc a)) (wipeV ρ vs) st1 = .ok ρ1 ∧ fe ρ1 st1 = .ok (.p (F a), st1)) (hl : src.length ≤ LIM) : nLc fi gt fYes fe vs ρ st = .ok (.lst (src.map F), st1) := by
  rw [nLc_ap, h1, R.ok_bind, lcG_mapA cc F hb, R.only_ok, if_pos]
  rw [List.length_map]
  exact hl
theorem ev_all (h1 : fi ρ st = .ok (⟨src.map cc, none⟩, st1)) (hb : ∀ p a q, src = p ++ a :: q → (∀ x ∈ p, bb x = true) → ∃ ρ1, gt (.p (cc a)) (wipeV ρ vs) st1 = .ok ρ1 ∧ fe ρ1 st1 = .ok (.p (.bool (bb a)), st1)) : vGb false fi gt fYes fe vs ρ st = .ok (.p (.bool (src.all bb)), st1) := by
  rw [vGb_ap, h1, R.ok_bind, gbG_all cc bb hb]; rfl
theorem ev_any (h1 : fi ρ st = .ok (⟨src.map cc, none⟩, st1)) (hb : ∀ p a q, src = p ++ a :: q → (∀ x ∈ p, bb x = false) → ∃ ρ1, gt (.p (cc a)) (wipeV ρ vs) st1 = .ok ρ1 ∧ fe ρ1 st1 = .ok (.p (.bool (bb a)), st1)) : vGb true fi gt fYes fe vs ρ st = .ok (.p (.bool (src.any bb)), st1) := by
  rw [vGb_ap, h1, R.ok_bind, gbG_any cc bb hb]; rfl
end
end
/-! operations -/
theorem op_sub (i j : Int) : subP (.int i) (.int j) = .ok (.int (i - j)) := by simp
theorem op_mul {i j : Int} (h : PySem.IntMulOk i j) : mulP (.int i) (.int j) = .ok (.int (i * j)) := by rw [mulP_int, if_pos h]
theorem op_fdiv {i j : Int} (h : CDivW i j) : fdivP (.int i) (.int j) = .ok (.int (i / j)) := if_pos h
theorem op_mod {i j : Int} (h : 0 < j) : modP (.int i) (.int j) = .ok (.int (i % j)) := if_pos h
theorem op_pow {i j : Int} (h : CPow i j) : powP (.int i) (.int j) = .ok (.int (i ^ j.toNat)) := if_pos h
theorem tru_bool (b : Bool) : truP (.bool b) = .ok b := rfl
theorem tru_lst (l : List PyData) : truP (.list l) = .ok (!l.isEmpty) := rfl
theorem tru_tup (l : List PyData) : truP (.tuple l) = .ok (!l.isEmpty) := rfl
theorem tru_int (i : Int) : truP (.int i) = .ok (i != 0) := rfl
theorem is_bb (a b : Bool) : isP false (.bool a) (.bool b) = .ok (.bool (decide (a = b))) := by cases a <;> cases b <;> rfl
theorem is_tt (a : Bool) : isP false (.bool a) (.bool true) = .ok (.bool a) := by cases a <;> rfl
theorem isn_tt (a : Bool) : isP true (.bool a) (.bool true) = .ok (.bool (!a)) := by cases a <;> rfl
theorem isn_ff (a : Bool) : isP true (.bool a) (.bool false) = .ok (.bool a) := by cases a <;> rfl
theorem is_ff (a : Bool) : isP false (.bool a) (.bool false) = .ok (.bool (!a)) := by cases a <;> rfl
theorem is_non (d : PyData) : isP false d .none = .ok (.bool (isNone d)) := by cases d <;> rfl
theorem isn_non (d : PyData) : isP true d .none = .ok (.bool (!isNone d)) := by cases d <;> rfl
theorem isLst_p (st : Store) (l : List PyData) : isLstV st (.p (.list l)) = true := rfl
theorem ixN_p {st : Store} {l : List PyData} {i : Int} {d : PyData} (h : L2.atI l i = some d) : ixD st (.p (.list l)) (.p (.int i)) = .ok d := by rw [ixD_lst, h]; rfl
theorem ixT_p {st : Store} {l : List PyData} {i : Int} {d : PyData} (h : L2.atI l i = some d) : ixD st (.p (.tuple l)) (.p (.int i)) = .ok d := by rw [ixD_tup, h]; rfl
theorem ixO {st : Store} {k : Nat} {l : List PyData} {i : Int} {d : PyData} (hk : st[k]? = some (.lst l)) (h : L2.atI l i = some d) : ixD st (.loc k) (.p (.int i)) = .ok d := by rw [ixD_loc hk, h]; rfl
theorem len_map {α : Type} (f : α → PyData) (l : List α) : lenP (.list (l.map f)) = .ok (.int (l.length : Int)) := by rw [lenP_lst, List.length_map]
theorem len_mapT {α : Type} (f : α → PyData) (l : List α) : lenP (.tuple (l.map f)) = .ok (.int (l.length : Int)) := by rw [lenP_tup, List.length_map]
end VL
namespace VL
open PySem PySem.Spec PyProof.Rows L2
/-- the slots of a block's own names are emptied -/
def WipeK (ρ : Slots) (vs : List Nat) (ρ' : Slots) : Prop := wipeV ρ vs = ρ'
def SetN (ρ : Slots) (i : Nat) (ρ' : Slots) : Prop := ρ.set i none = ρ'
theorem SetN.z {o : Option Vd} {ρ : Slots} : SetN (o :: ρ) 0 (none :: ρ) := rfl
theorem SetN.s {o : Option Vd} {ρ ρ' : Slots} {i : Nat} (h : SetN ρ i ρ') : SetN (o :: ρ) (i + 1) (o :: ρ') := by unfold SetN at *; rw [List.set_cons_succ, h]
theorem WipeK.z {ρ : Slots} : WipeK ρ [] ρ := rfl
theorem WipeK.s {ρ ρ1 ρ' : Slots} {v : Nat} {vs : List Nat} (h : WipeK ρ vs ρ1) (h2 : SetN ρ1 v ρ') : WipeK ρ (v :: vs) ρ' := by unfold WipeK SetN at *; rw [wipeV_cons, h, h2]
section
variable {ρ ρ' ρw ρ1 : Slots} {st st1 st2 : Store} {fi : FI} {gt : FG} {α : Type} {src : List α} {cc F : α → PyData} {bb : α → Bool} {fe : FE} {tt : FT} {vs : List Nat} {t t' : Bool} {x y : PyData}
theorem en_lc (h1 : fi ρ st = .ok (⟨src.map cc, none⟩, st1)) (hw : WipeK ρ vs ρw) (hb : ∀ a ∈ src, ∃ ρ1, gt (.p (cc a)) ρw st1 = .ok ρ1 ∧ fe ρ1 st1 = .ok (.p (F a), st1)) (hl : src.length ≤ LIM) : nLc fi gt fYes fe vs ρ st = .ok (.lst (src.map F), st1) := by
  unfold WipeK at hw; subst hw; exact en_lcM h1 hb hl
theorem en_lct (h1 : fi ρ st = .ok (⟨src.map cc, none⟩, st1)) (hw : WipeK ρ vs ρw) (hb : ∀ a ∈ src, ∃ ρ1, gt (.p (cc a)) ρw st1 = .ok ρ1 ∧ tt ρ1 st1 = .ok (bb a, st1) ∧ (bb a = true → fe ρ1 st1 = .ok (.p (F a), st1))) (hl : src.length ≤ LIM) : nLc fi gt tt fe vs ρ st = .ok (.lst ((src.filter bb).map F), st1) := by
  unfold WipeK at hw; subst hw; exact en_lcF h1 hb hl
theorem ev_allW (h1 : fi ρ st = .ok (⟨src.map cc, none⟩, st1)) (hw : WipeK ρ vs ρw) (hb : ∀ p a q, src = p ++ a :: q → (∀ x ∈ p, bb x = true) → ∃ ρ1, gt (.p (cc a)) ρw st1 = .ok ρ1 ∧ fe ρ1 st1 = .ok (.p (.bool (bb a)), st1)) : vGb false fi gt fYes fe vs ρ st = .ok (.p (.bool (src.all bb)), st1) := by
  unfold WipeK at hw; subst hw; exact ev_all h1 hb
theorem ev_anyW (h1 : fi ρ st = .ok (⟨src.map cc, none⟩, st1)) (hw : WipeK ρ vs ρw) (hb : ∀ p a q, src = p ++ a :: q → (∀ x ∈ p, bb x = false) → ∃ ρ1, gt (.p (cc a)) ρw st1 = .ok ρ1 ∧ fe ρ1 st1 = .ok (.p (.bool (bb a)), st1)) : vGb true fi gt fYes fe vs ρ st = .ok (.p (.bool (src.any bb)), st1) := by
  unfold WipeK at hw; subst hw; exact ev_any h1 hb
theorem IfK.and_ {X : R (Bool × Store)} (h : t = true → X = .ok (t', st1)) : IfK t X (.ok (false, st1)) (.ok (t && t', st1)) := by
  cases t with
  | true => exact h rfl
  | false => rfl
theorem IfK.or_ {X : R (Bool × Store)} (h : t = false → X = .ok (t', st1)) : IfK t (.ok (true, st1)) X (.ok (t || t', st1)) := by
  cases t with
  | true => rfl
  | false => exact h rfl
theorem IfK.andV {X : R (Vd × Store)} (h : t = true → X = .ok (.p (.bool t'), st1)) : IfK t X (.ok (.p (.bool false), st1)) (.ok (.p (.bool (t && t')), st1)) := by
  cases t with
  | true => exact h rfl
  | false => rfl
theorem IfK.orV {X : R (Vd × Store)} (h : t = false → X = .ok (.p (.bool t'), st1)) : IfK t (.ok (.p (.bool true), st1)) X (.ok (.p (.bool (t || t')), st1)) := by
  cases t with
  | true => rfl
  | false => exact h rfl
theorem IfK.val {X Y : R (Vd × Store)} (h1 : t = true → X = .ok (.p x, st1)) (h2 : t = false → Y = .ok (.p y, st1)) : IfK t X Y (.ok (.p (if t = true then x else y), st1)) := by
  cases t with
  | true => exact h1 rfl
  | false => exact h2 rfl
theorem bool_imp {p : Prop} [Decidable p] {Q : Prop} (h : p → Q) : decide p = true → Q := fun e => h (of_decide_eq_true e)
theorem bool_imn {p : Prop} [Decidable p] {Q : Prop} (h : ¬ p → Q) : decide p = false → Q := fun e => h (of_decide_eq_false e)
theorem bool_nn {b : Bool} {Q : Prop} (h : b = false → Q) : (!b) = true → Q := fun e => h (by cases b <;> simp_all)
theorem bool_nf {b : Bool} {Q : Prop} (h : b = true → Q) : (!b) = false → Q := fun e => h (by cases b <;> simp_all)
theorem bool_xt {b : Bool} {Q : Prop} (h : b = true → Q) : (b != false) = true → Q := fun e => h (by cases b <;> simp_all)
theorem bool_xn {b : Bool} {Q : Prop} (h : b = false → Q) : (b != true) = true → Q := fun e => h (by cases b <;> simp_all)
theorem bool_xf {b : Bool} {Q : Prop} (h : b = false → Q) : (b != false) = false → Q := fun e => h (by cases b <;> simp_all)
theorem bool_xm {b : Bool} {Q : Prop} (h : b = true → Q) : (b != true) = false → Q := fun e => h (by cases b <;> simp_all)
end
theorem isi_ii (i : Int) : isiP "int" (.int i) = .ok (.bool true) := by rw [isiP_int, ty_int_int]
theorem isi_ib (i : Int) : isiP "bool" (.int i) = .ok (.bool false) := by rw [isiP_int, ty_int_bool]
theorem isi_is (i : Int) : isiP "str" (.int i) = .ok (.bool false) := by rw [isiP_int, ty_int_str]
theorem isi_it (i : Int) : isiP "tuple" (.int i) = .ok (.bool false) := by rw [isiP_int, ty_int_tuple]
theorem isi_il (i : Int) : isiP "list" (.int i) = .ok (.bool false) := by rw [isiP_int, ty_int_list]
theorem isi_bi (i : Bool) : isiP "int" (.bool i) = .ok (.bool true) := by rw [isiP_bool, ty_bool_int]
theorem isi_bb (i : Bool) : isiP "bool" (.bool i) = .ok (.bool true) := by rw [isiP_bool, ty_bool_bool]
theorem isi_bs (i : Bool) : isiP "str" (.bool i) = .ok (.bool false) := by rw [isiP_bool, ty_bool_str]
theorem isi_bt (i : Bool) : isiP "tuple" (.bool i) = .ok (.bool false) := by rw [isiP_bool, ty_bool_tuple]
theorem isi_bl (i : Bool) : isiP "list" (.bool i) = .ok (.bool false) := by rw [isiP_bool, ty_bool_list]
theorem isi_ni : isiP "int" .none = .ok (.bool false) := by rw [isiP_NoneType, ty_NoneType_int]
theorem isi_nb : isiP "bool" .none = .ok (.bool false) := by rw [isiP_NoneType, ty_NoneType_bool]
theorem isi_ns : isiP "str" .none = .ok (.bool false) := by rw [isiP_NoneType, ty_NoneType_str]
theorem isi_nt : isiP "tuple" .none = .ok (.bool false) := by rw [isiP_NoneType, ty_NoneType_tuple]
theorem isi_nl : isiP "list" .none = .ok (.bool false) := by rw [isiP_NoneType, ty_NoneType_list]
theorem isi_si (i : Str) : isiP "int" (.str i) = .ok (.bool false) := by rw [isiP_str, ty_str_int]
theorem isi_sb (i : Str) : isiP "bool" (.str i) = .ok (.bool false) := by rw [isiP_str, ty_str_bool]
theorem isi_ss (i : Str) : isiP "str" (.str i) = .ok (.bool true) := by rw [isiP_str, ty_str_str]
theorem isi_st (i : Str) : isiP "tuple" (.str i) = .ok (.bool false) := by rw [isiP_str, ty_str_tuple]
theorem isi_sl (i : Str) : isiP "list" (.str i) = .ok (.bool false) := by rw [isiP_str, ty_str_list]
theorem isi_ti (i : List PyData) : isiP "int" (.tuple i) = .ok (.bool false) := by rw [isiP_tuple, ty_tuple_int]
theorem isi_tb (i : List PyData) : isiP "bool" (.tuple i) = .ok (.bool false) := by rw [isiP_tuple, ty_tuple_bool]
theorem isi_ts (i : List PyData) : isiP "str" (.tuple i) = .ok (.bool false) := by rw [isiP_tuple, ty_tuple_str]
theorem isi_tt (i : List PyData) : isiP "tuple" (.tuple i) = .ok (.bool true) := by rw [isiP_tuple, ty_tuple_tuple]
theorem isi_tl (i : List PyData) : isiP "list" (.tuple i) = .ok (.bool false) := by rw [isiP_tuple, ty_tuple_list]
theorem isi_li (i : List PyData) : isiP "int" (.list i) = .ok (.bool false) := by rw [isiP_list, ty_list_int]
theorem isi_lb (i : List PyData) : isiP "bool" (.list i) = .ok (.bool false) := by rw [isiP_list, ty_list_bool]
theorem isi_ls (i : List PyData) : isiP "str" (.list i) = .ok (.bool false) := by rw [isiP_list, ty_list_str]
theorem isi_lt (i : List PyData) : isiP "tuple" (.list i) = .ok (.bool false) := by rw [isiP_list, ty_list_tuple]
theorem isi_ll (i : List PyData) : isiP "list" (.list i) = .ok (.bool true) := by rw [isiP_list, ty_list_list]
theorem pk_loc {st : Store} {k : Nat} {l : List PyData} (h : st[k]? = some (.lst l)) : peek st (.loc k) = .ok (.list l) := peek_lst h
theorem src_loc {st : Store} {k : Nat} {d : PyData} {l : List PyData} (h : st[k]? = some (.fz d)) (hi : itemsOf d = some l) : srcOf st (.loc k) = .ok ⟨l, none⟩ := by simp [srcOf, h, hi]
theorem eq_nilL {l : List PyData} (n : Bool) (h : SeqAt.shaped (.list l) = true) : eqP n (.list l) (.list []) = .ok (.bool (l.isEmpty != n)) := by
  have h0 : SeqAt.shaped (.list []) = true := by first | rfl | simp [SeqAt.shaped, PyData.canLay0, PyData.canLayAll0]
  unfold eqP
  rw [if_pos ⟨h, h0⟩]
  congr 3
  cases l <;> simp [PyData.eqv, PyData.eqvAll]
theorem ev_inK {c : PyData} {f : FE} {ρ : Slots} {st st1 : Store} {a : Vd} {d r : PyData} (h1 : f ρ st = .ok (a, st1)) (p1 : peek st1 a = .ok d) (ho : inP d c = .ok r) : vInK c f ρ st = .ok (.p r, st1) := by rw [vInK_ap, h1, R.ok_bind, p1, R.ok_bind, ho]; rfl
theorem en_sorted {f : FE} {ρ : Slots} {st st1 : Store} {a : Vd} {d : PyData} {ds : List PyData} (h1 : f ρ st = .ok (a, st1)) (p1 : peek st1 a = .ok d) (hi : itemsOf d = some ds) (hs : SortOk ds) : nSorted f ρ st = .ok (.lst (sortD ds), st1) := by
  rw [nSorted_ap, h1, R.ok_bind, p1, R.ok_bind, hi]
  exact if_pos hs
/-- two items sorted -/
theorem sort2 (x y : PyData) : sortD [x, y] = if PySem.W.dataLt y x = true then [y, x] else [x, y] := by
  have hp := sortD_perm [x, y]
  have hw := sortD_pw [x, y]
  split
  · rename_i h
    generalize sortD [x, y] = l at hp hw
    have hl := hp.length_eq
    match l, hl with
    | [a, b], _ =>
      have ha : a = x ∨ a = y := by have := hp.mem_iff.mp (List.mem_cons_self (a := a) (l := [b])); simpa using this
      rcases ha with rfl | rfl
      · have := hp.cons_inv
        have e : b = y := by have := this.mem_iff.mp (List.mem_cons_self (a := b) (l := [])); simpa using this
        subst e
        have := (List.pairwise_cons.mp hw).1 b (by simp)
        rw [this] at h; cases h
      · have := (hp.trans (List.Perm.swap a x [])).cons_inv
        have e : b = x := by have := this.mem_iff.mp (List.mem_cons_self (a := b) (l := [])); simpa using this
        rw [e]
  · rename_i h
    refine sortD_id (List.pairwise_cons.mpr ⟨fun z hz => ?_, by simp⟩)
    rw [List.mem_singleton.mp hz]
    exact Bool.eq_false_iff.mpr h
theorem enumD_map {α : Type} (c : α → PyData) (d0 : α) (l : List α) : enumD (l.map c) = (List.range l.length).map fun i => .tuple [natD i, c (l.getD i d0)] := by
  apply List.ext_getElem?
  intro i
  unfold enumD
  rw [List.getElem?_mapIdx, List.getElem?_map, List.getElem?_map]
  by_cases h : i < l.length
  · rw [List.getElem?_eq_getElem h, List.getElem?_range h]
    simp [List.getD_eq_getElem?_getD, List.getElem?_eq_getElem h]
  · rw [List.getElem?_eq_none (by omega), List.getElem?_eq_none (by simp; omega)]; rfl
theorem ei_enumN {α : Type} {c : α → PyData} {l : List α} (d0 : α) {f : FE} {ρ : Slots} {st st1 : Store} (h1 : f ρ st = .ok (.p (.tuple (l.map c)), st1)) : iEnum f ρ st = .ok (⟨(List.range l.length).map fun i => .tuple [natD i, c (l.getD i d0)], none⟩, st1) := by
  rw [ei_enumT h1, enumD_map c d0]
theorem atI_map {α : Type} (c : α → PyData) (d0 : α) {l : List α} {i : Nat} (h : i < l.length) : L2.atI (l.map c) (i : Int) = some (c (l.getD i d0)) :=
  atI_nat (by rw [List.getElem?_map, List.getD_eq_getElem?_getD, List.getElem?_eq_getElem h]; rfl)
theorem str_ok (x : Str) (h : PyData.strOk x = true) : SeqAt.shaped (.str x) = true := (Shp.str 0 x h).ok
theorem eqv_str (a b : Str) : PyData.eqv (.str a) (.str b) = (a == b) := by first | rfl | simp [PyData.eqv]
theorem eq_str {a b : Str} (n : Bool) (ha : PyData.strOk a = true) (hb : PyData.strOk b = true) : eqP n (.str a) (.str b) = .ok (.bool ((a == b) != n)) := by
  unfold eqP
  rw [if_pos ⟨str_ok a ha, str_ok b hb⟩, eqv_str]
/-- a def's slots at its begin -/
def EntK (as : List Vd) (N : Nat) (ρ : Slots) : Prop := as.map some ++ List.replicate (N - as.length) none = ρ
theorem EntK.c {a : Vd} {as : List Vd} {N : Nat} {ρ : Slots} (h : EntK as N ρ) : EntK (a :: as) (N + 1) (some a :: ρ) := by
  unfold EntK at *
  rw [List.length_cons, Nat.add_sub_add_right, List.map_cons, List.cons_append, h]
theorem EntK.n {N : Nat} {ρ : Slots} (h : EntK [] N ρ) : EntK [] (N + 1) (none :: ρ) := by
  unfold EntK at *
  rw [← h]; simp [List.replicate_succ]
theorem EntK.z : EntK [] 0 [] := rfl
theorem ed_ent {N q : Nat} {lv : Nat → Vd → Store → R (Vd × Store)} {o : Out} {r : R (Vd × Store)} {as : List Vd} {ρ0 ρ1 : Slots} {st st1 : Store} {sf : FS} (h0 : EntK as N ρ0) (hl : as.length = q) (h1 : sf ρ0 st = .ok (o, ρ1, st1)) (h2 : outM lv st.length (o, ρ1, st1) = r) : entry N q lv sf as st = r := by
  unfold EntK at h0
  refine ed_entry hl (ρ1 := ρ1) (o := o) (st1 := st1) ?_ h2
  rw [← hl, h0]; exact h1
theorem len_n {α : Type} : ([] : List α).length = 0 := rfl
theorem len_c {α : Type} {a : α} {l : List α} {n : Nat} (h : l.length = n) : (a :: l).length = n + 1 := by rw [List.length_cons, h]
theorem lim_lit {α : Type} {l : List α} {n : Nat} (h : l.length = n) (hn : n ≤ 1000) : l.length ≤ LIM := by rw [h, LIM_eq]; omega
theorem rB {r : R (Vd × Store)} {b c : Bool} {st : Store} (h : r = .ok (.p (.bool b), st)) (e : b = c) : r = .ok (.p (.bool c), st) := by rw [h, e]
theorem rI_ {r : R (Vd × Store)} {b c : Int} {st : Store} (h : r = .ok (.p (.int b), st)) (e : b = c) : r = .ok (.p (.int c), st) := by rw [h, e]
theorem rD {r : R (Vd × Store)} {b c : PyData} {st : Store} (h : r = .ok (.p b, st)) (e : b = c) : r = .ok (.p c, st) := by rw [h, e]
theorem rT {r : R (Bool × Store)} {b c : Bool} {st : Store} (h : r = .ok (b, st)) (e : b = c) : r = .ok (c, st) := by rw [h, e]
section
variable {ρ ρ' ρw ρ1 : Slots} {st st1 st2 : Store} {fi : FI} {gt : FG} {α : Type} {src : List α} {cc F : α → PyData} {bb : α → Bool} {fe : FE} {tt : FT} {vs : List Nat} {g : α → Slots}
theorem en_lcA (h1 : fi ρ st = .ok (⟨src.map cc, none⟩, st1)) (hw : WipeK ρ vs ρw) (hg : ∀ a ∈ src, gt (.p (cc a)) ρw st1 = .ok (g a)) (hf : ∀ a ∈ src, fe (g a) st1 = .ok (.p (F a), st1)) (hl : src.length ≤ LIM) : nLc fi gt fYes fe vs ρ st = .ok (.lst (src.map F), st1) :=
  en_lc h1 hw (fun a ha => ⟨g a, hg a ha, hf a ha⟩) hl
theorem en_lctA (h1 : fi ρ st = .ok (⟨src.map cc, none⟩, st1)) (hw : WipeK ρ vs ρw) (hg : ∀ a ∈ src, gt (.p (cc a)) ρw st1 = .ok (g a)) (ht : ∀ a ∈ src, tt (g a) st1 = .ok (bb a, st1)) (hf : ∀ a ∈ src, bb a = true → fe (g a) st1 = .ok (.p (F a), st1)) (hl : src.length ≤ LIM) : nLc fi gt tt fe vs ρ st = .ok (.lst ((src.filter bb).map F), st1) :=
  en_lct h1 hw (fun a ha => ⟨g a, hg a ha, ht a ha, hf a ha⟩) hl
theorem ev_allA (h1 : fi ρ st = .ok (⟨src.map cc, none⟩, st1)) (hw : WipeK ρ vs ρw) (hg : ∀ a ∈ src, gt (.p (cc a)) ρw st1 = .ok (g a)) (hf : ∀ a ∈ src, fe (g a) st1 = .ok (.p (.bool (bb a)), st1)) : vGb false fi gt fYes fe vs ρ st = .ok (.p (.bool (src.all bb)), st1) :=
  ev_allW h1 hw fun p a q e _ => ⟨g a, hg a (by rw [e]; simp), hf a (by rw [e]; simp)⟩
theorem ev_anyA (h1 : fi ρ st = .ok (⟨src.map cc, none⟩, st1)) (hw : WipeK ρ vs ρw) (hg : ∀ a ∈ src, gt (.p (cc a)) ρw st1 = .ok (g a)) (hf : ∀ a ∈ src, fe (g a) st1 = .ok (.p (.bool (bb a)), st1)) : vGb true fi gt fYes fe vs ρ st = .ok (.p (.bool (src.any bb)), st1) :=
  ev_anyW h1 hw fun p a q e _ => ⟨g a, hg a (by rw [e]; simp), hf a (by rw [e]; simp)⟩
end
section
variable {α : Type} {x y r : α} {p q : Prop} [Decidable p] [Decidable q]
theorem IfK.dand (h : IfK (decide (p ∧ q)) x y r) : IfK (decide p && decide q) x y r := by rwa [Bool.decide_and] at h
theorem IfK.dor (h : IfK (decide (p ∨ q)) x y r) : IfK (decide p || decide q) x y r := by rwa [Bool.decide_or] at h
end
/-! ### loops by their states -/
/-- what a loop comes to: the state at its end, or what it returns -/
def runL {α S : Type} (step : S → α → S ⊕ PyData) : List α → S → S ⊕ PyData
  | [], s => .inl s
  | a :: l, s => match step s a with
    | .inl s' => runL step l s'
    | .inr v => .inr v
def LoopR {S : Type} (I : S → Slots → Store → Prop) (J : Store → Prop) (r : RS) : S ⊕ PyData → Prop
  | .inl s => ∃ ρ st, r = .ok (.nx, ρ, st) ∧ I s ρ st
  | .inr v => ∃ ρ st, r = .ok (.rt (.p v), ρ, st) ∧ J st
/-- a turn of a loop -/
def TurnR {S : Type} (I : S → Slots → Store → Prop) (J : Store → Prop) (r : RS) : S ⊕ PyData → Prop
  | .inl s => ∃ ρ st, (r = .ok (.nx, ρ, st) ∨ r = .ok (.ct, ρ, st)) ∧ I s ρ st
  | .inr v => ∃ ρ st, r = .ok (.rt (.p v), ρ, st) ∧ J st
theorem forG_loop {α S : Type} {src : List PyData} {gt : FG} {body : FS} (c : α → PyData) (step : S → α → S ⊕ PyData) (I : S → Slots → Store → Prop) (J : Store → Prop) : ∀ {l : List α} {s : S} {ρ : Slots} {st : Store},
    (∀ a ∈ l, ∀ s ρ st, I s ρ st → ∃ ρ1, gt (.p (c a)) ρ st = .ok ρ1 ∧ TurnR I J (body ρ1 st) (step s a)) → I s ρ st → LoopR I J (forG ⟨src, none⟩ gt body (l.map c) ρ st) (runL step l s)
  | [], s, ρ, st, _, hI => ⟨ρ, st, forG_nil _ _ _ _ _, hI⟩
  | a :: l, s, ρ, st, h, hI => by
    obtain ⟨ρ1, h1, h2⟩ := h a List.mem_cons_self s ρ st hI
    rw [List.map_cons, forG_cons, h1, R.ok_bind]
    unfold runL
    cases e : step s a with
    | inl s' =>
      rw [e] at h2
      obtain ⟨ρ', st', h3, hI'⟩ := h2
      have ih := forG_loop (src := src) (gt := gt) (body := body) c step I J (l := l) (fun x hx => h x (List.mem_cons_of_mem _ hx)) hI'
      rcases h3 with h3 | h3 <;> (rw [h3]; exact ih)
    | inr v =>
      rw [e] at h2
      obtain ⟨ρ', st', h3, hJ⟩ := h2
      exact ⟨ρ', st', by rw [h3]; rfl, hJ⟩
theorem whileG_more {c : FT} {body : FS} : ∀ (n m : Nat) {ρ : Slots} {st : Store}, notBad (whileG c body n ρ st) = true → notBad (whileG c body m ρ st) = true → whileG c body n ρ st = whileG c body m ρ st
  | 0, _, _, _, h, _ => by cases h
  | _ + 1, 0, _, _, _, h => by cases h
  | n + 1, m + 1, ρ, st, h, h' => by
    unfold whileG at h h' ⊢
    cases hc : c ρ st with
    | ok a =>
      rw [hc] at h h'
      simp only [liftS_ok] at h h' ⊢
      by_cases ha : a.1 = true
      · rw [if_pos ha] at h h' ⊢
        rw [if_pos ha]
        cases hb : body ρ a.2 with
        | ok b =>
          rw [hb] at h h'
          simp only [R.ok_bind] at h h' ⊢
          obtain ⟨o, ρ', st'⟩ := b
          cases o with
          | nx => exact whileG_more n m h h'
          | ct => exact whileG_more n m h h'
          | _ => rfl
        | _ => rfl
      · rw [if_neg ha, if_neg ha]
    | _ => rfl
theorem sWhile_of {c : FT} {body : FS} {n : Nat} {ρ : Slots} {st : Store} {r : Out × Slots × Store} (h : whileG c body n ρ st = .ok r) : sWhile c body ρ st = .ok r := by
  have hx : ∃ n, notBad (whileG c body n ρ st) = true := ⟨n, by rw [h]; rfl⟩
  unfold sWhile
  rw [dif_pos hx, ← h]
  exact whileG_more _ _ hx.choose_spec (by rw [h]; rfl)
theorem while_stop {c : FT} {body : FS} {n : Nat} {ρ : Slots} {st st1 : Store} (h : c ρ st = .ok (false, st1)) : whileG c body (n + 1) ρ st = .ok (.nx, ρ, st1) := by
  unfold whileG
  rw [h, liftS_ok]; rfl
theorem while_on {c : FT} {body : FS} {n : Nat} {ρ ρ' : Slots} {st st1 st2 : Store} {r : RS} (h : c ρ st = .ok (true, st1)) (hb : body ρ st1 = .ok (.nx, ρ', st2)) (hr : whileG c body n ρ' st2 = r) : whileG c body (n + 1) ρ st = r := by
  unfold whileG
  rw [h, liftS_ok, if_pos rfl, hb]; exact hr
theorem runL_snoc {α S : Type} (step : S → α → S ⊕ PyData) : ∀ (p : List α) (a : α) (s0 s : S), runL step p s0 = .inl s → runL step (p ++ [a]) s0 = step s a
  | [], a, s0, s, h => by
    cases h
    show (match step s0 a with | .inl s' => runL step [] s' | .inr v => .inr v) = _
    cases step s0 a <;> rfl
  | x :: p, a, s0, s, h => by
    unfold runL at h
    rw [List.cons_append]
    unfold runL
    cases e : step s0 x with
    | inl s' => rw [e] at h; exact runL_snoc step p a s' s h
    | inr v => rw [e] at h; cases h
/-- the same, with what is behind -/
theorem forG_loopP {α S : Type} {src : List PyData} {gt : FG} {body : FS} (c : α → PyData) (step : S → α → S ⊕ PyData) (I : S → Slots → Store → Prop) (J : Store → Prop) {l : List α} {s0 : S} {ρ : Slots} {st : Store}
    (h : ∀ p a q, l = p ++ a :: q → ∀ s ρ st, runL step p s0 = .inl s → I s ρ st → ∃ ρ1, gt (.p (c a)) ρ st = .ok ρ1 ∧ TurnR I J (body ρ1 st) (step s a)) (h0 : I s0 ρ st) : LoopR I J (forG ⟨src, none⟩ gt body (l.map c) ρ st) (runL step l s0) := by
  have key : ∀ (r p : List α) (s : S) (ρ : Slots) (st : Store), l = p ++ r → runL step p s0 = .inl s → I s ρ st → LoopR I J (forG ⟨src, none⟩ gt body (r.map c) ρ st) (runL step r s) := by
    intro r
    induction r with
    | nil => intro p s ρ st _ _ hI; exact ⟨ρ, st, forG_nil _ _ _ _ _, hI⟩
    | cons a r ih =>
      intro p s ρ st hl hp hI
      obtain ⟨ρ1, h1, h2⟩ := h p a r hl s ρ st hp hI
      have hs := runL_snoc step p a s0 s hp
      rw [List.map_cons, forG_cons, h1, R.ok_bind]
      unfold runL
      cases e : step s a with
      | inl s' =>
        rw [e] at h2 hs
        obtain ⟨ρ', st', h3, hI'⟩ := h2
        have ih := ih (p ++ [a]) s' ρ' st' (by rw [hl]; simp) hs hI'
        rcases h3 with h3 | h3 <;> (rw [h3]; exact ih)
      | inr v =>
        rw [e] at h2
        obtain ⟨ρ', st', h3, hJ⟩ := h2
        exact ⟨ρ', st', by rw [h3]; rfl, hJ⟩
  exact key l [] s0 ρ st rfl rfl h0
theorem turn_ret {S : Type} {I : S → Slots → Store → Prop} {J : Store → Prop} {c : FT} {d : PyData} {b : Bool} {s : S} {ρ : Slots} {st st1 : Store} (h : c ρ st = .ok (b, st1)) (hI : I s ρ st1) (hJ : J st1) : TurnR I J (sIf c (sRet (vC d)) sNil ρ st) (if b = true then .inr d else .inl s) := by
  cases b with
  | true => exact ⟨ρ, st1, es_if h (IfK.t (es_ret ev_c)), hJ⟩
  | false => exact ⟨ρ, st1, .inl (es_if h (IfK.f es_nil)), hI⟩
theorem atI_pred {α : Type} (c : α → PyData) (d0 : α) {l : List α} {i : Nat} (h0 : 0 < i) (h : i ≤ l.length) : L2.atI (l.map c) ((i : Int) - 1) = some (c (l.getD (i - 1) d0)) := by
  rw [show (i : Int) - 1 = ((i - 1 : Nat) : Int) by omega]
  exact atI_map c d0 (by omega)
theorem getM (X : Store) (ob : Ob) : (X ++ [ob])[X.length]? = some ob := get_mid X ob []
theorem setM (X : Store) (ob ob' : Ob) : (X ++ [ob]).set X.length ob' = X ++ [ob'] := set_mid X ob ob' []
theorem isLst_loc {st : Store} {k : Nat} {l : List PyData} (h : st[k]? = some (.lst l)) : isLstV st (.loc k) = true := isLst_at h
theorem slT_to {xs : List PyData} {i : Int} (h : 0 ≤ i) : slP (.tuple xs) none (some i) = .ok (.tuple (xs.take i.toNat)) := slP_toT xs i h
theorem slT_from {xs : List PyData} {i : Int} (h : 0 ≤ i) : slP (.tuple xs) (some i) none = .ok (.tuple (xs.drop i.toNat)) := slP_fromT xs i h
theorem slT_toN {α : Type} {c : α → PyData} {xs : List α} {i : Nat} : slP (.tuple (xs.map c)) none (some (i : Int)) = .ok (.tuple ((xs.take i).map c)) := by rw [slT_to (by omega), Int.toNat_natCast, List.map_take]
theorem slT_fromN {α : Type} {c : α → PyData} {xs : List α} {i : Nat} : slP (.tuple (xs.map c)) (some (i : Int)) none = .ok (.tuple ((xs.drop i).map c)) := by rw [slT_from (by omega), Int.toNat_natCast, List.map_drop]
theorem slT_fromS {α : Type} {c : α → PyData} {xs : List α} {i : Nat} : slP (.tuple (xs.map c)) (some ((i : Int) + 1)) none = .ok (.tuple ((xs.drop (i + 1)).map c)) := by rw [slT_from (by omega), show ((i : Int) + 1).toNat = i + 1 by omega, List.map_drop]
/-- a number between bounds -/
def numB (a b : Int) : PyData → Bool
  | .int i => decide (a ≤ i ∧ i ≤ b)
  | _ => false
def numOk (d : PyData) : Prop := noNum d = true ∨ ∃ i, d = .int i
theorem num_any {d : PyData} (h : numOk d) (a b : Int) (st : Store) : dI_num [.p d, .p (.int a), .p (.int b)] st = .ok (.p (.bool (numB a b d)), st) := by
  rcases h with h | ⟨i, rfl⟩
  · rw [num_no h]
    cases d <;> first | rfl | cases h
  · exact num_int i a b st
theorem nats_of {n : Nat} : ∀ {l : List PyData}, l.all (numB 0 ((n : Int) - 1)) = true → ∃ r : List Nat, l = r.map natD ∧ ∀ x ∈ r, x < n
  | [], _ => ⟨[], rfl, by simp⟩
  | d :: l, h => by
    rw [List.all_cons, Bool.and_eq_true] at h
    obtain ⟨r, rfl, hr⟩ := nats_of h.2
    cases d with
    | int i =>
      have h1 : 0 ≤ i ∧ i ≤ (n : Int) - 1 := of_decide_eq_true h.1
      exact ⟨i.toNat :: r, by rw [List.map_cons]; congr 2; omega, fun x hx => by
        rcases List.mem_cons.mp hx with rfl | hx
        · omega
        · exact hr x hx⟩
    | _ => cases h.1
theorem numOk_nat (l : List Nat) : ∀ d ∈ l.map natD, numOk d := fun d hd => by
  obtain ⟨i, _, rfl⟩ := List.mem_map.mp hd
  exact .inr ⟨i, rfl⟩
theorem nums_all {n : Nat} {r : List Nat} (h : ∀ x ∈ r, x < n) : (r.map natD).all (numB 0 ((n : Int) - 1)) = true := by
  rw [List.all_map, List.all_eq_true]
  intro x hx
  have := h x hx
  show decide (0 ≤ (x : Int) ∧ (x : Int) ≤ (n : Int) - 1) = true
  rw [decide_eq_true_iff]; omega
section
variable {st1 : Store} {t t' : Bool}
theorem IfK.or_n {X : R (Bool × Store)} (h : t = true → X = .ok (t', st1)) : IfK t X (.ok (true, st1)) (.ok (!t || t', st1)) := by
  cases t with
  | true => exact h rfl
  | false => rfl
theorem IfK.and_n {X : R (Bool × Store)} (h : t = false → X = .ok (t', st1)) : IfK t (.ok (false, st1)) X (.ok (!t && t', st1)) := by
  cases t with
  | true => rfl
  | false => exact h rfl
theorem IfK.orVn {X : R (Vd × Store)} (h : t = true → X = .ok (.p (.bool t'), st1)) : IfK t X (.ok (.p (.bool true), st1)) (.ok (.p (.bool (!t || t')), st1)) := by
  cases t with
  | true => exact h rfl
  | false => rfl
theorem IfK.andVn {X : R (Vd × Store)} (h : t = false → X = .ok (.p (.bool t'), st1)) : IfK t (.ok (.p (.bool false), st1)) X (.ok (.p (.bool (!t && t')), st1)) := by
  cases t with
  | true => rfl
  | false => exact h rfl
end
theorem pasm {p : Prop} (h : p) : p := h
section
variable {st1 : Store} {t' : Bool} {p : Prop} [Decidable p] {x y : PyData}
theorem IfK.andP {X : R (Bool × Store)} (h : p → X = .ok (t', st1)) : IfK (decide p) X (.ok (false, st1)) (.ok (decide p && t', st1)) := IfK.and_ fun e => h (of_decide_eq_true e)
theorem IfK.orP {X : R (Bool × Store)} (h : ¬ p → X = .ok (t', st1)) : IfK (decide p) (.ok (true, st1)) X (.ok (decide p || t', st1)) := IfK.or_ fun e => h (of_decide_eq_false e)
theorem IfK.andVP {X : R (Vd × Store)} (h : p → X = .ok (.p (.bool t'), st1)) : IfK (decide p) X (.ok (.p (.bool false), st1)) (.ok (.p (.bool (decide p && t')), st1)) := IfK.andV fun e => h (of_decide_eq_true e)
theorem IfK.orVP {X : R (Vd × Store)} (h : ¬ p → X = .ok (.p (.bool t'), st1)) : IfK (decide p) (.ok (.p (.bool true), st1)) X (.ok (.p (.bool (decide p || t')), st1)) := IfK.orV fun e => h (of_decide_eq_false e)
theorem IfK.orPn {X : R (Bool × Store)} (h : p → X = .ok (t', st1)) : IfK (decide p) X (.ok (true, st1)) (.ok (!(decide p) || t', st1)) := IfK.or_n fun e => h (of_decide_eq_true e)
theorem IfK.andPn {X : R (Bool × Store)} (h : ¬ p → X = .ok (t', st1)) : IfK (decide p) (.ok (false, st1)) X (.ok (!(decide p) && t', st1)) := IfK.and_n fun e => h (of_decide_eq_false e)
theorem IfK.valP {X Y : R (Vd × Store)} (h1 : p → X = .ok (.p x, st1)) (h2 : ¬ p → Y = .ok (.p y, st1)) : IfK (decide p) X Y (.ok (.p (if p then x else y), st1)) := by
  by_cases h : p
  · rw [if_pos h]; exact IfK.dt h (h1 h)
  · rw [if_neg h]; exact IfK.df h (h2 h)
end
theorem eq_same {d : PyData} (n : Bool) (h : SeqAt.shaped d = true) : eqP n d d = .ok (.bool (!n)) := by
  unfold eqP
  rw [if_pos ⟨h, h⟩, SeqAt.eqv_refl _ (SeqAt.canLay_of_shaped h)]
  cases n <;> rfl
theorem shaped_nats (l : List Nat) : SeqAt.shaped (.list (l.map natD)) = true ∧ SeqAt.shaped (.tuple (l.map natD)) = true := by
  have := shaped_ints (l.map fun i : Nat => (i : Int))
  rw [List.map_map] at this
  exact this
theorem sort_nats {l m : List Nat} (h : l.Perm m) (hm : m.Pairwise (· < ·)) : sortD (l.map natD) = m.map natD := by
  have hasc : (m.map fun i : Nat => (i : Int)).Pairwise (· ≤ ·) := by
    rw [List.pairwise_map]
    exact hm.imp fun h => by omega
  have := sortI_perm (h.map fun i : Nat => (i : Int)) hasc
  rw [List.map_map, List.map_map] at this
  exact this
theorem sok_nats (l : List Nat) : SortOk (l.map natD) := by
  have := sortI_ok (l.map fun i : Nat => (i : Int))
  rw [List.map_map] at this
  exact this
theorem ei_range1N {f h : FE} {ρ : Slots} {st st1 st2 : Store} {j : Nat} (h1 : f ρ st = .ok (.p (.int 1), st1)) (h2 : h ρ st1 = .ok (.p (.int (j : Int)), st2)) (hj : j ≤ 1000000) : iRange2 f h ρ st = .ok (⟨(List.range (j - 1)).map fun i => natD (i + 1), none⟩, st2) := by
  rw [ei_range2 h1 h2 ⟨in62 (by omega) (by omega), in62 (by omega) (by omega)⟩]
  unfold rangeD
  rw [show ((j : Int) - 1).toNat = j - 1 by omega]
  congr 3
  refine List.map_congr_left fun i _ => ?_
  show PyData.int (1 + (i : Int)) = .int ((i + 1 : Nat) : Int)
  congr 1; omega
theorem eq_nilT {l : List PyData} (n : Bool) (h : SeqAt.shaped (.tuple l) = true) : eqP n (.tuple l) (.tuple []) = .ok (.bool (l.isEmpty != n)) := by
  have h0 : SeqAt.shaped (.tuple []) = true := by first | rfl | simp [SeqAt.shaped, PyData.canLay0, PyData.canLayAll0]
  unfold eqP
  rw [if_pos ⟨h, h0⟩]
  congr 3
  cases l <;> simp [PyData.eqv, PyData.eqvAll]
theorem any_nat (x : Nat) (l : List Nat) : ((l.map natD).any fun z => PyData.eqv z (natD x)) = decide (x ∈ l) := by
  rw [List.any_map, Bool.eq_iff_iff, List.any_eq_true, decide_eq_true_iff]
  constructor
  · rintro ⟨y, hy, e⟩
    have e : PyData.eqv (.int (y : Int)) (.int (x : Int)) = true := e
    rw [eqv_int, decide_eq_true_iff] at e
    have : y = x := by omega
    rw [← this]; exact hy
  · intro h
    exact ⟨x, h, by show PyData.eqv (.int (x : Int)) (.int (x : Int)) = true; rw [eqv_int]; simp⟩
theorem in_nat {x : Nat} {l : List Nat} {c : PyData} (n : Bool) (hc : c = .list (l.map natD) ∨ c = .tuple (l.map natD)) : (if n = true then notInP (natD x) c else inP (natD x) c) = .ok (.bool (decide (x ∈ l) != n)) := by
  have h1 : SeqAt.shaped c = true := by
    rcases hc with rfl | rfl
    · exact (shaped_nats l).1
    · exact (shaped_nats l).2
  have h2 : itemsOf c = some (l.map natD) := by rcases hc with rfl | rfl <;> rfl
  have hok : InOk (natD x) c := by
    unfold InOk
    rw [h1, h2, shaped_int]; rfl
  have hb : inB (natD x) c = decide (x ∈ l) := by
    unfold inB
    rw [h2]
    exact any_nat x l
  cases n with
  | false => rw [if_neg Bool.false_ne_true, Bool.bne_false]; unfold inP; rw [if_pos hok, hb]
  | true => rw [if_pos rfl, Bool.bne_true]; unfold notInP; rw [if_pos hok, hb]
theorem inD_natL (n : Bool) (st : Store) (x : Nat) (l : List Nat) : inD n st (.p (natD x)) (.p (.list (l.map natD))) = .ok (.bool (decide (x ∈ l) != n)) := in_nat n (.inl rfl)
theorem inD_natT (n : Bool) (st : Store) (x : Nat) (l : List Nat) : inD n st (.p (natD x)) (.p (.tuple (l.map natD))) = .ok (.bool (decide (x ∈ l) != n)) := in_nat n (.inr rfl)
theorem inD_natO (n : Bool) {st : Store} {k : Nat} (x : Nat) {l : List Nat} (h : st[k]? = some (.lst (l.map natD))) : inD n st (.p (natD x)) (.loc k) = .ok (.bool (decide (x ∈ l) != n)) := by
  unfold inD
  simp only [dctOf, h, peek]
  exact in_nat n (.inl rfl)
theorem natD_s (x : Nat) : (.int ((x : Int) + 1) : PyData) = natD (x + 1) := rfl
theorem inD_natS (n : Bool) (st : Store) (x : Nat) (l : List Nat) : inD n st (.p (.int ((x : Int) + 1))) (.p (.tuple (l.map natD))) = .ok (.bool (decide (x + 1 ∈ l) != n)) := inD_natT n st (x + 1) l
theorem inD_natSL (n : Bool) (st : Store) (x : Nat) (l : List Nat) : inD n st (.p (.int ((x : Int) + 1))) (.p (.list (l.map natD))) = .ok (.bool (decide (x + 1 ∈ l) != n)) := inD_natL n st (x + 1) l
theorem atI_mapS {α : Type} (c : α → PyData) (d0 : α) {l : List α} {i : Nat} (h : i + 1 < l.length) : L2.atI (l.map c) ((i : Int) + 1) = some (c (l.getD (i + 1) d0)) := atI_map c d0 (i := i + 1) h
open Classical in
theorem forG_nilO {sr : Src} {gt : FG} {body : FS} {ρ : Slots} {st : Store} (h : sr.Ok st) : forG sr gt body [] ρ st = .ok (.nx, ρ, st) := by unfold forG; exact if_pos h
open Classical in
theorem forG_consO {sr : Src} {gt : FG} {body : FS} {d : PyData} {r : List PyData} {ρ : Slots} {st : Store} (h : sr.Ok st) : forG sr gt body (d :: r) ρ st =
    (gt (.p d) ρ st >>= fun ρ1 => body ρ1 st >>= fun a => match a.1 with
      | .nx => forG sr gt body r a.2.1 a.2.2
      | .ct => forG sr gt body r a.2.1 a.2.2
      | .bk => .ok (.nx, a.2)
      | o => .ok (o, a.2)) := by
  rw [forG]; exact if_pos h
/-- the same over a list that may be an object that changes elsewhere -/
theorem forG_loopO {α S : Type} {sr : Src} {gt : FG} {body : FS} (c : α → PyData) (step : S → α → S ⊕ PyData) (I : S → Slots → Store → Prop) (J : Store → Prop) {l : List α} {s0 : S} {ρ : Slots} {st : Store} (hOk : ∀ s ρ st, I s ρ st → sr.Ok st)
    (h : ∀ p a q, l = p ++ a :: q → ∀ s ρ st, runL step p s0 = .inl s → I s ρ st → ∃ ρ1, gt (.p (c a)) ρ st = .ok ρ1 ∧ TurnR I J (body ρ1 st) (step s a)) (h0 : I s0 ρ st) : LoopR I J (forG sr gt body (l.map c) ρ st) (runL step l s0) := by
  have key : ∀ (r p : List α) (s : S) (ρ : Slots) (st : Store), l = p ++ r → runL step p s0 = .inl s → I s ρ st → LoopR I J (forG sr gt body (r.map c) ρ st) (runL step r s) := by
    intro r
    induction r with
    | nil => intro p s ρ st _ _ hI; exact ⟨ρ, st, forG_nilO (hOk _ _ _ hI), hI⟩
    | cons a r ih =>
      intro p s ρ st hl hp hI
      obtain ⟨ρ1, h1, h2⟩ := h p a r hl s ρ st hp hI
      have hs := runL_snoc step p a s0 s hp
      rw [List.map_cons, forG_consO (hOk _ _ _ hI), h1, R.ok_bind]
      unfold runL
      cases e : step s a with
      | inl s' =>
        rw [e] at h2 hs
        obtain ⟨ρ', st', h3, hI'⟩ := h2
        have ih := ih (p ++ [a]) s' ρ' st' (by rw [hl]; simp) hs hI'
        rcases h3 with h3 | h3 <;> (rw [h3]; exact ih)
      | inr v =>
        rw [e] at h2
        obtain ⟨ρ', st', h3, hJ⟩ := h2
        exact ⟨ρ', st', by rw [h3]; rfl, hJ⟩
  exact key l [] s0 ρ st rfl rfl h0
theorem es_forO {fi : FI} {gt : FG} {sf : FS} {ρ : Slots} {st st1 : Store} {s : Src} {r : RS} (h1 : fi ρ st = .ok (s, st1)) (h2 : forG s gt sf s.ds ρ st1 = r) : sFor fi gt sf ρ st = r := by rw [sFor_ap, h1, liftS_ok]; exact h2
/-- a loop that never returns -/
theorem runF {α S : Type} (f : S → α → S) : ∀ (l : List α) (s : S), runL (fun s a => .inl (f s a)) l s = .inl (l.foldl f s)
  | [], _ => rfl
  | a :: l, s => runF f l (f s a)
theorem srcL {st : Store} {k : Nat} {l : List PyData} (h : st[k]? = some (.lst l)) : srcOf st (.loc k) = .ok ⟨l, some k⟩ := by simp [srcOf, h]
/-- a list in flight: a frozen one, or one that may still change -/
def HoldL (n : Nat) (st : Store) (v : Vd) (L : List PyData) : Prop := v = .p (.list L) ∨ ∃ k, v = .loc k ∧ n ≤ k ∧ st[k]? = some (.lst L)
theorem HoldL.src {n : Nat} {st : Store} {v : Vd} {L : List PyData} (h : HoldL n st v L) : ∃ s : Src, (∀ Y, srcOf (st ++ Y) v = .ok s) ∧ s.ds = L ∧ ∀ Y, s.Ok (st ++ Y) := by
  rcases h with rfl | ⟨k, rfl, _, hk⟩
  · exact ⟨⟨L, none⟩, fun _ => rfl, rfl, fun _ => trivial⟩
  · have h2 : ∀ Y, (st ++ Y)[k]? = some (.lst L) := fun Y => by rw [List.getElem?_append_left (List.getElem?_eq_some_iff.mp hk).1]; exact hk
    exact ⟨⟨L, some k⟩, fun Y => srcL (h2 Y), rfl, h2⟩
theorem HoldL.peek {n : Nat} {st : Store} {v : Vd} {L : List PyData} (h : HoldL n st v L) : peek st v = .ok (.list L) := by
  rcases h with rfl | ⟨k, rfl, _, hk⟩
  · rfl
  · exact pk_loc hk
theorem HoldL.out {m : Nat} {st : Store} {v : Vd} {L : List PyData} {ρ : Slots} (h : HoldL m st v L) : outM leaveF m (.rt v, ρ, st) = .ok (.p (.list L), st.take m) := by
  rcases h with rfl | ⟨k, rfl, hn, hk⟩
  · rfl
  · show leaveF m (.loc k) st = _
    unfold leaveF
    simp only
    rw [if_neg (by omega)]
    have : frz st (.loc k) = .ok (.list L, st.set k (.fz (.list L))) := by simp [frz, hk]
    rw [this, R.ok_bind]
    congr 2
    rw [List.take_set_of_le hn]
/-- an object of ours behind Z -/
def OwnL (Z st : Store) (v : Vd) (L : List PyData) : Prop := (∃ Y, st = Z ++ Y) ∧ ∃ k, v = .loc k ∧ Z.length ≤ k ∧ st[k]? = some (.lst L)
theorem OwnL.new (Z : Store) (Y : Store) (L : List PyData) : OwnL Z ((Z ++ Y) ++ [.lst L]) (.loc (Z ++ Y).length) L := ⟨⟨Y ++ [.lst L], by rw [List.append_assoc]⟩, _, rfl, by simp, getM _ _⟩
theorem OwnL.app {Z st : Store} {v : Vd} {L : List PyData} (h : OwnL Z st v L) {d : PyData} (hl : L.length < LIM) : isLstV st v = true ∧ ∃ st', mAppend st v [.p d] = .ok (.p .none, st') ∧ OwnL Z st' v (L ++ [d]) := by
  obtain ⟨⟨Y, rfl⟩, k, rfl, hk, hg⟩ := h
  refine ⟨isLst_at hg, _, mAppend_at hg hl, ⟨Y.set (k - Z.length) (.lst (L ++ [d])), by rw [List.set_append_right _ _ hk]⟩, k, rfl, hk, ?_⟩
  rw [List.getElem?_set_self (List.getElem?_eq_some_iff.mp hg).1]
theorem OwnL.peek {Z st : Store} {v : Vd} {L : List PyData} (h : OwnL Z st v L) : peek st v = .ok (.list L) := by
  obtain ⟨_, k, rfl, _, hk⟩ := h
  exact pk_loc hk
theorem OwnL.hold {Z st : Store} {v : Vd} {L : List PyData} (h : OwnL Z st v L) : HoldL Z.length st v L := by
  obtain ⟨_, k, rfl, h1, hk⟩ := h
  exact .inr ⟨k, rfl, h1, hk⟩
theorem OwnL.cat {Z st : Store} {v : Vd} {L M : List PyData} (h : OwnL Z st v L) {f h' : FE} {ρ : Slots} (h1 : f ρ st = .ok (v, st)) (h2 : h' ρ st = .ok (.p (.list M), st)) (hl : L.length + M.length ≤ LIM) : ∃ v' st', vOwn (nCat f h') ρ st = .ok (v', st') ∧ OwnL Z st' v' (L ++ M) := by
  obtain ⟨Y, rfl⟩ := h.1
  exact ⟨_, _, ev_own (en_cat h1 h2 h.peek rfl hl), OwnL.new Z Y (L ++ M)⟩
theorem HoldL.mono {n m : Nat} {st : Store} {v : Vd} {L : List PyData} (h : HoldL n st v L) (hm : m ≤ n) : HoldL m st v L := by
  rcases h with h | ⟨k, h1, h2, h3⟩
  · exact .inl h
  · exact .inr ⟨k, h1, Nat.le_trans hm h2, h3⟩
theorem HoldL.ap {n : Nat} {st : Store} {v : Vd} {L : List PyData} (h : HoldL n st v L) (Y : Store) : HoldL n (st ++ Y) v L := by
  rcases h with h | ⟨k, h1, h2, h3⟩
  · exact .inl h
  · exact .inr ⟨k, h1, h2, by rw [List.getElem?_append_left (List.getElem?_eq_some_iff.mp h3).1]; exact h3⟩
theorem en_lcRaw {fi : FI} {gt : FG} {tt : FT} {fe : FE} {vs : List Nat} {ρ ρw : Slots} {st st1 st2 : Store} {s l : List PyData} (h1 : fi ρ st = .ok (⟨s, none⟩, st1)) (hw : WipeK ρ vs ρw) (h2 : lcG ⟨s, none⟩ gt tt fe ρw s st1 = .ok (l, st2)) (hl : l.length ≤ LIM) : nLc fi gt tt fe vs ρ st = .ok (.lst l, st2) := by
  unfold WipeK at hw
  rw [nLc_ap, h1, R.ok_bind, hw]
  show R.only (lcG ⟨s, none⟩ gt tt fe ρw s st1) _ = _
  rw [h2, R.only_ok, if_pos hl]
open Classical in
theorem lcG_nilO {sr : Src} {gt : FG} {tt : FT} {fe : FE} {ρ : Slots} {st : Store} (h : sr.Ok st) : lcG sr gt tt fe ρ [] st = .ok ([], st) := by unfold lcG; exact if_pos h
open Classical in
theorem lcG_consO {sr : Src} {gt : FG} {tt : FT} {fe : FE} {ρ : Slots} {d : PyData} {r : List PyData} {st : Store} (h : sr.Ok st) : lcG sr gt tt fe ρ (d :: r) st =
    (gt (.p d) ρ st >>= fun ρ1 => tt ρ1 st >>= fun b => if b.1 = true then fe ρ1 b.2 >>= fun a => frz a.2 a.1 >>= fun x => lcG sr gt tt fe ρ r x.2 >>= fun y => .ok (x.1 :: y.1, y.2) else lcG sr gt tt fe ρ r b.2) := by
  rw [lcG]; exact if_pos h
section
variable {ρ ρw : Slots} {st st1 : Store} {fi : FI} {gt : FG} {α : Type} {src : List α} {cc F : α → PyData} {bb : α → Bool} {fe : FE} {tt : FT} {vs : List Nat} {g : α → Slots} {sr : Src}
theorem lcG_filterO (hok : sr.Ok st) : ∀ {ds : List α}, (∀ a ∈ ds, gt (.p (cc a)) ρ st = .ok (g a)) → (∀ a ∈ ds, tt (g a) st = .ok (bb a, st)) → (∀ a ∈ ds, bb a = true → fe (g a) st = .ok (.p (F a), st)) → lcG sr gt tt fe ρ (ds.map cc) st = .ok ((ds.filter bb).map F, st)
  | [], _, _, _ => by rw [List.map_nil, lcG_nilO hok]; rfl
  | d :: r, h1, h2, h3 => by
    have ih := lcG_filterO hok (ds := r) (fun x hx => h1 x (List.mem_cons_of_mem _ hx)) (fun x hx => h2 x (List.mem_cons_of_mem _ hx)) (fun x hx => h3 x (List.mem_cons_of_mem _ hx))
    rw [List.map_cons, lcG_consO hok, h1 d List.mem_cons_self, R.ok_bind, h2 d List.mem_cons_self, R.ok_bind]
    cases hb : bb d with
    | true => simp [hb, h3 d List.mem_cons_self hb, ih]
    | false => simp [hb, ih]
theorem en_lctO (h1 : fi ρ st = .ok (sr, st1)) (hds : sr.ds = src.map cc) (hok : sr.Ok st1) (hw : WipeK ρ vs ρw) (hg : ∀ a ∈ src, gt (.p (cc a)) ρw st1 = .ok (g a)) (ht : ∀ a ∈ src, tt (g a) st1 = .ok (bb a, st1)) (hf : ∀ a ∈ src, bb a = true → fe (g a) st1 = .ok (.p (F a), st1)) (hl : src.length ≤ LIM) : nLc fi gt tt fe vs ρ st = .ok (.lst ((src.filter bb).map F), st1) := by
  unfold WipeK at hw
  subst hw
  rw [nLc_ap, h1, R.ok_bind]
  show R.only (lcG sr gt tt fe (wipeV ρ vs) sr.ds st1) _ = _
  rw [hds, lcG_filterO hok hg ht hf, R.only_ok, if_pos]
  rw [List.length_map]
  exact Nat.le_trans (List.length_filter_le _ _) hl
end
theorem HoldL.head {ob ob' : Ob} {Y : Store} {v : Vd} {L : List PyData} (h : HoldL 1 (ob :: Y) v L) : HoldL 1 (ob' :: Y) v L := by
  rcases h with h | ⟨k, h1, h2, h3⟩
  · exact .inl h
  · refine .inr ⟨k, h1, h2, ?_⟩
    obtain ⟨j, rfl⟩ : ∃ j, k = j + 1 := ⟨k - 1, by omega⟩
    simpa using h3
theorem HoldL.ix {n : Nat} {st : Store} {v : Vd} {L : List PyData} (h : HoldL n st v L) {i : Int} {d : PyData} (hi : L2.atI L i = some d) : ixD st v (.p (.int i)) = .ok d := by
  rcases h with rfl | ⟨k, rfl, _, hk⟩
  · exact ixN_p hi
  · exact ixO hk hi
/-! ### a law's end -/
theorem ed_law {N q : Nat} {sf : FS} {as : List Vd} {ρ0 : Slots} {v : PyData} {st : Store} (h0 : EntK as N ρ0) (hl : as.length = q) (h : ∃ ρ1 st1, sf ρ0 st = .ok (.rt (.p v), ρ1, st1)) : ∃ st', entry N q leaveF sf as st = .ok (.p v, st') := by
  obtain ⟨ρ1, st1, h⟩ := h
  exact ⟨_, ed_ent h0 hl h ed_rtF⟩
theorem sx {f h : FS} {ρ ρ1 : Slots} {st st1 : Store} {v : Vd} (h1 : f ρ st = .ok (.nx, ρ1, st1)) (h2 : ∃ ρ2 st2, h ρ1 st1 = .ok (.rt v, ρ2, st2)) : ∃ ρ2 st2, sSeq f h ρ st = .ok (.rt v, ρ2, st2) := by
  obtain ⟨ρ2, st2, h2⟩ := h2
  exact ⟨ρ2, st2, es_seq h1 (SeqK.nx h2)⟩
theorem sx_ret {f : FE} {ρ : Slots} {st st1 : Store} {v : Vd} (h1 : f ρ st = .ok (v, st1)) : ∃ ρ2 st2, sRet f ρ st = .ok (.rt v, ρ2, st2) := ⟨_, _, es_ret h1⟩
theorem sSeq_as (a b c : FS) (ρ : Slots) (st : Store) : sSeq a (sSeq b c) ρ st = sSeq (sSeq a b) c ρ st := by
  simp only [sSeq_ap]
  cases a ρ st with
  | ok x =>
    obtain ⟨o, ρ', st'⟩ := x
    cases o <;> rfl
  | exc n s => rfl
  | bad => rfl
theorem sx2 {a b c : FS} {ρ ρ1 : Slots} {st st1 : Store} {v : Vd} (h1 : sSeq a b ρ st = .ok (.nx, ρ1, st1)) (h2 : ∃ ρ2 st2, c ρ1 st1 = .ok (.rt v, ρ2, st2)) : ∃ ρ2 st2, sSeq a (sSeq b c) ρ st = .ok (.rt v, ρ2, st2) := by
  rw [sSeq_as]; exact sx h1 h2
end VL

/-! evaluating generator expressions in sum, min, max, tuple -/
namespace VL
open PySem PySem.Spec PyProof.Rows L2
theorem ev_gl {Kf : List PyData → R PyData} {fi : FI} {gt : FG} {tt : FT} {fe : FE} {vs : List Nat} {ρ : Slots} {st st1 : Store} {l : List PyData} {d : PyData} (h : nLc fi gt tt fe vs ρ st = .ok (.lst l, st1)) (hk : Kf l = .ok d) : vGl Kf fi gt tt fe vs ρ st = .ok (.p d, st1) := by
  unfold nLc at h
  unfold vGl
  cases e : fi ρ st with
  | bad => rw [e] at h; cases h
  | exc n z => rw [e] at h; cases h
  | ok a =>
    rw [e, R.ok_bind] at h
    rw [R.ok_bind]
    cases e2 : lcG a.1 gt tt fe (wipeV ρ vs) a.1.ds a.2 with
    | bad => rw [e2] at h; cases h
    | exc n z => rw [e2] at h; cases h
    | ok b =>
      rw [e2, R.only_ok] at h
      rw [R.only_ok]
      split at h
      · rename_i hl
        injection h with h
        injection h with h1 h2
        injection h1 with h1
        rw [if_pos hl, h1, hk, R.ok_bind, h2]
      · cases h
theorem sumK_ints (ns : List Int) : sumK (ns.map .int) = .ok (.int ns.sum) := by
  unfold sumK; rw [asInts_map]
theorem mmK_min (l : List PyData) : mmK PySem.W.minD l = minP [.list l] := by cases l <;> rfl
theorem mmK_max (l : List PyData) : mmK PySem.W.maxD l = maxP [.list l] := by cases l <;> rfl
theorem tupK_eq (l : List PyData) : tupK l = .ok (.tuple l) := rfl
open Classical in
theorem lcG2_cons (ds : List PyData) (gt : FG) (tt : FT) (fi1 : FI) (gt1 : FG) (tt1 : FT) (fe : FE) (vs1 : List Nat) (ρ : Slots) (d : PyData) (r : List PyData) (st : Store) : lcG2 ⟨ds, none⟩ gt tt fi1 gt1 tt1 fe vs1 ρ (d :: r) st =
    (gt (.p d) ρ st >>= fun ρ1 => tt ρ1 st >>= fun b => if b.1 = true then fi1 ρ1 b.2 >>= fun a => lcG a.1 gt1 tt1 fe (wipeV ρ1 vs1) a.1.ds a.2 >>= fun x => lcG2 ⟨ds, none⟩ gt tt fi1 gt1 tt1 fe vs1 ρ r x.2 >>= fun y => .ok (x.1 ++ y.1, y.2)
    else lcG2 ⟨ds, none⟩ gt tt fi1 gt1 tt1 fe vs1 ρ r b.2) := by
  rw [lcG2]; exact if_pos trivial
theorem lcG2_A {α : Type} {src' : List PyData} {gt : FG} {fi1 : FI} {gt1 : FG} {tt1 : FT} {fe : FE} {vs1 : List Nat} {ρ : Slots} {st : Store} {cc : α → PyData} {g : α → Slots} {G : α → List PyData} : ∀ {l : List α},
    (∀ a ∈ l, gt (.p (cc a)) ρ st = .ok (g a)) → (∀ a ∈ l, ∃ ds, fi1 (g a) st = .ok (⟨ds, none⟩, st) ∧ lcG ⟨ds, none⟩ gt1 tt1 fe (wipeV (g a) vs1) ds st = .ok (G a, st)) → lcG2 ⟨src', none⟩ gt fYes fi1 gt1 tt1 fe vs1 ρ (l.map cc) st = .ok (l.flatMap G, st)
  | [], _, _ => by rw [List.map_nil, lcG2]; exact if_pos trivial
  | a :: l, h1, h2 => by
    obtain ⟨ds, e1, e2⟩ := h2 a List.mem_cons_self
    have ih := lcG2_A (src' := src') (gt := gt) (fi1 := fi1) (gt1 := gt1) (tt1 := tt1) (fe := fe) (vs1 := vs1) (ρ := ρ) (st := st) (cc := cc) (g := g) (G := G) (l := l) (fun x hx => h1 x (List.mem_cons_of_mem _ hx)) fun x hx => h2 x (List.mem_cons_of_mem _ hx)
    rw [List.map_cons, lcG2_cons, h1 a List.mem_cons_self, R.ok_bind]
    show (fYes _ _ >>= _) = _
    rw [show fYes (g a) st = .ok (true, st) from rfl, R.ok_bind, if_pos rfl, e1, R.ok_bind, e2, R.ok_bind, ih]; rfl
theorem en_lc2A {α : Type} {src : List α} {fi : FI} {gt : FG} {fi1 : FI} {gt1 : FG} {tt1 : FT} {fe : FE} {vs vs1 : List Nat} {ρ ρw : Slots} {st st1 : Store} {cc : α → PyData} {g : α → Slots} {G : α → List PyData} (h1 : fi ρ st = .ok (⟨src.map cc, none⟩, st1)) (hw : WipeK ρ vs ρw)
    (hg : ∀ a ∈ src, gt (.p (cc a)) ρw st1 = .ok (g a)) (hi : ∀ a ∈ src, ∃ ds, fi1 (g a) st1 = .ok (⟨ds, none⟩, st1) ∧ lcG ⟨ds, none⟩ gt1 tt1 fe (wipeV (g a) vs1) ds st1 = .ok (G a, st1)) (hl : (src.flatMap G).length ≤ LIM) : nLc2 fi gt fYes fi1 gt1 tt1 fe vs vs1 ρ st = .ok (.lst (src.flatMap G), st1) := by
  unfold WipeK at hw
  subst hw
  unfold nLc2
  rw [h1, R.ok_bind]
  show R.only (lcG2 ⟨src.map cc, none⟩ gt fYes fi1 gt1 tt1 fe vs1 (wipeV ρ vs) (src.map cc) st1) _ = _
  rw [lcG2_A hg hi, R.only_ok, if_pos hl]
end VL

/-! common to laws: pairs of numbers as keys, draws one by one, the law's small defs -/
namespace VL
open PySem PySem.Spec PyProof.Rows L2
/-! ### pairs of numbers: in order, as a dict's keys -/
abbrev kyD (p : Nat × Nat) : PyData := .tuple [natD p.1, natD p.2]
abbrev plt (p q : Nat × Nat) : Prop := p.1 < q.1 ∨ (p.1 = q.1 ∧ p.2 < q.2)
theorem ky_lt (p q : Nat × Nat) : PySem.W.dataLt (kyD p) (kyD q) = decide (plt p q) := by
  have := PySem.W.DatumOrd.lt_eq (α := Int × Int) ((p.1 : Int), (p.2 : Int)) ((q.1 : Int), (q.2 : Int))
  refine this.trans ?_
  show (if (p.1 : Int) = (q.1 : Int) then decide ((p.2 : Int) < (q.2 : Int)) else decide ((p.1 : Int) < (q.1 : Int))) = _
  unfold plt
  split
  · rw [decide_eq_decide]; omega
  · rw [decide_eq_decide]; omega
theorem kyD_inj {p q : Nat × Nat} (h : kyD p = kyD q) : p = q := by
  obtain ⟨a, b⟩ := p
  obtain ⟨c, d⟩ := q
  injection h with h
  injection h with h1 h2
  injection h2 with h2 _
  injection h1 with h1
  injection h2 with h2
  have : a = c := by omega
  have : b = d := by omega
  subst a; subst b; rfl
theorem ky_shaped (p : Nat × Nat) : SeqAt.shaped (kyD p) = true := shaped_pair _ _
theorem ky_ord (p q : Nat × Nat) : OrdOk (kyD p) (kyD q) := by
  unfold OrdOk
  simp [ky_shaped, PySem.W.alike, PySem.W.alikeAll, isNone]
theorem ky_ltP (p q : Nat × Nat) : ltP (kyD p) (kyD q) = .ok (.bool (decide (plt p q))) := by
  unfold ltP; rw [if_pos (ky_ord p q), ky_lt]
theorem ky_geP (p q : Nat × Nat) : geP (kyD p) (kyD q) = .ok (.bool (!decide (plt p q))) := by
  unfold geP; rw [if_pos (ky_ord p q), ky_lt]
theorem ky_sok (l : List (Nat × Nat)) : SortOk (l.map kyD) := by
  unfold SortOk
  simp [List.all_map, ky_shaped, PySem.W.alike, PySem.W.alikeAll, isTup1]
/-- the keys in order -/
theorem ky_sort (l : List (Nat × Nat)) (hn : l.Nodup) : ∃ m : List (Nat × Nat), sortD (l.map kyD) = m.map kyD ∧ m.Perm l ∧ m.Pairwise plt := by
  obtain ⟨m, hm, e⟩ : ∃ m : List (Nat × Nat), m.Perm l ∧ m.map kyD = sortD (l.map kyD) :=
    ⟨l.mergeSort fun a b => PySem.W.dataLe false id (kyD a) (kyD b), List.mergeSort_perm _ _, List.map_mergeSort fun a _ b _ => rfl⟩
  refine ⟨m, e.symm, hm, ?_⟩
  have h1 : (m.map kyD).Pairwise (fun a b => PySem.W.dataLt b a = false) := by rw [e]; exact sortD_pw _
  rw [List.pairwise_map] at h1
  have h2 : m.Pairwise (· ≠ ·) := hm.nodup_iff.mpr hn
  refine (h1.and h2).imp fun {a b} h => ?_
  have h3 := h.1
  rw [ky_lt, decide_eq_false_iff_not] at h3
  have h4 := h.2
  obtain ⟨a1, a2⟩ := a
  obtain ⟨b1, b2⟩ := b
  have h4 : ¬ (a1 = b1 ∧ a2 = b2) := fun z => h4 (by rw [z.1, z.2])
  simp only [plt] at h3 ⊢
  omega
section
open Classical
variable {α : Type} (c : α → PyData)
abbrev enT (e : (Nat × Nat) × α) : PyData × PyData := (kyD e.1, c e.2)
noncomputable def putT (L : List ((Nat × Nat) × α)) (p : Nat × Nat) (v : α) : List ((Nat × Nat) × α) := if p ∈ L.map (·.1) then L.map (fun e => if e.1 = p then (p, v) else e) else L ++ [(p, v)]
theorem put_en (L : List ((Nat × Nat) × α)) (p : Nat × Nat) (v : α) : putP (L.map (enT c)) (kyD p) (c v) = (putT L p v).map (enT c) := by
  have hex : (∃ x ∈ L.map (enT c), x.1 = kyD p) ↔ p ∈ L.map (·.1) := by
    constructor
    · rintro ⟨x, hx, e⟩
      obtain ⟨y, hy, rfl⟩ := List.mem_map.mp hx
      exact List.mem_map.mpr ⟨y, hy, kyD_inj e⟩
    · intro h
      obtain ⟨y, hy, rfl⟩ := List.mem_map.mp h
      exact ⟨_, List.mem_map.mpr ⟨y, hy, rfl⟩, rfl⟩
  unfold putP putT
  by_cases h : p ∈ L.map (·.1)
  · rw [if_pos (hex.mpr h), if_pos h]
    unfold setP
    rw [List.map_map, List.map_map]
    refine List.map_congr_left fun y _ => ?_
    show (if kyD y.1 = kyD p then (kyD y.1, c v) else (kyD y.1, c y.2)) = enT c (if y.1 = p then (p, v) else y)
    by_cases e : y.1 = p
    · rw [if_pos (by rw [e]), if_pos e, e]
    · rw [if_neg fun z => e (kyD_inj z), if_neg e]
  · rw [if_neg fun z => h (hex.mp z), if_neg h, List.map_append]
    rfl
theorem putT_nd {L : List ((Nat × Nat) × α)} {p : Nat × Nat} {v : α} (h : (L.map (·.1)).Nodup) : ((putT L p v).map (·.1)).Nodup := by
  unfold putT
  split
  · rename_i hp
    have : (L.map (fun e => if e.1 = p then (p, v) else e)).map (·.1) = L.map (·.1) := by
      rw [List.map_map]
      refine List.map_congr_left fun y _ => ?_
      show (if y.1 = p then (p, v) else y).1 = y.1
      by_cases e : y.1 = p
      · rw [if_pos e]; exact e.symm
      · rw [if_neg e]
    rw [this]; exact h
  · rename_i hp
    rw [List.map_append]
    exact List.nodup_append.mpr ⟨h, by simp, fun x hx y hy => by
      have : y = p := by simpa using hy
      rw [this]; exact fun z => hp (z ▸ hx)⟩
theorem putT_mem {L : List ((Nat × Nat) × α)} {p : Nat × Nat} {v : α} {e : (Nat × Nat) × α} (h : e ∈ putT L p v) : e = (p, v) ∨ e ∈ L := by
  unfold putT at h
  split at h
  · obtain ⟨y, hy, rfl⟩ := List.mem_map.mp h
    split
    · exact .inl rfl
    · exact .inr hy
  · rcases List.mem_append.mp h with h | h
    · exact .inr h
    · exact .inl (by simpa using h)
theorem putT_len {L : List ((Nat × Nat) × α)} {p : Nat × Nat} {v : α} : (putT L p v).length ≤ L.length + 1 := by
  unfold putT
  split
  · rw [List.length_map]; omega
  · rw [List.length_append]; exact Nat.le_refl _
theorem get_en {L : List ((Nat × Nat) × α)} {p : Nat × Nat} {v : α} (hn : (L.map (·.1)).Nodup) (h : (p, v) ∈ L) : getP (L.map (enT c)) (kyD p) = some (c v) := by
  induction L with
  | nil => cases h
  | cons x L ih =>
    rw [List.map_cons] at hn
    obtain ⟨h1, h2⟩ := List.nodup_cons.mp hn
    show (if kyD x.1 = kyD p then some (c x.2) else getP (L.map (enT c)) (kyD p)) = _
    rcases List.mem_cons.mp h with e | h
    · rw [← e, if_pos rfl]
    · rw [if_neg fun z => h1 (by rw [kyD_inj z]; exact List.mem_map.mpr ⟨_, h, rfl⟩)]
      exact ih h2 h
/-- a table that's walked already -/
theorem ix_en {L : List ((Nat × Nat) × α)} {p : Nat × Nat} {v : α} (hn : (L.map (·.1)).Nodup) (h : (p, v) ∈ L) {st : Store} {k : Nat} (hk : st[k]? = some (.fz (.dict (L.map (enT c))))) : ixD st (.loc k) (.p (kyD p)) = .ok (c v) := by
  have hg := get_en c hn h
  cases L with
  | nil => cases h
  | cons x L =>
    unfold ixD
    have hd : dctOf st (.loc k) = some (some true, (x :: L).map (enT c)) := by
      simp only [dctOf, hk]
      rfl
    rw [hd]
    show (if keyB true (kyD p) = true then optR (getP ((x :: L).map (enT c)) (kyD p)) else .bad) = _
    rw [if_pos (show keyB true (kyD p) = true from rfl), hg]; rfl
end
theorem takeN {ob : Ob} (hd : DrA ob) (r : Store) {b : Int} (h0 : 0 < b) (h1 : b < 2 ^ 60) : ∃ (v : Nat) (ob' : Ob), dA_take [.loc 0, .p (.int b)] (ob :: r) = .ok (.p (natD v), ob' :: r) ∧ DrA ob' ∧ (v : Int) < b := by
  obtain ⟨v, ob', e, d, h2, h3⟩ := takeA hd r h0 h1
  obtain ⟨j, rfl⟩ : ∃ j : Nat, v = (j : Int) := ⟨v.toNat, by omega⟩
  exact ⟨j, ob', e, d, h3⟩
theorem lcG_cons0 {src : List PyData} {gt : FG} {tt : FT} {fe : FE} {ρ : Slots} {d : PyData} {r : List PyData} {st : Store} : lcG ⟨src, none⟩ gt tt fe ρ (d :: r) st =
    (gt (.p d) ρ st >>= fun ρ1 => tt ρ1 st >>= fun b => if b.1 = true then fe ρ1 b.2 >>= fun a => frz a.2 a.1 >>= fun x => lcG ⟨src, none⟩ gt tt fe ρ r x.2 >>= fun y => .ok (x.1 :: y.1, y.2) else lcG ⟨src, none⟩ gt tt fe ρ r b.2) := by
  conv => lhs; unfold lcG
  exact if_pos (show (Src.mk src none).Ok st from trivial)
/-- what a key has -/
def lkT {α : Type} (d0 : α) (L : List ((Nat × Nat) × α)) (p : Nat × Nat) : α := match L.find? (fun e => decide (e.1 = p)) with
  | some e => e.2
  | none => d0
theorem lkT_mem {α : Type} (d0 : α) {L : List ((Nat × Nat) × α)} {p : Nat × Nat} (h : p ∈ L.map (·.1)) : (p, lkT d0 L p) ∈ L := by
  obtain ⟨e, he, rfl⟩ := List.mem_map.mp h
  unfold lkT
  cases hf : L.find? (fun x => decide (x.1 = e.1)) with
  | none =>
    have := List.find?_eq_none.mp hf e he
    simp at this
  | some y =>
    have h1 := List.mem_of_find?_eq_some hf
    have h2 : decide (y.1 = e.1) = true := List.find?_some (p := fun x : (Nat × Nat) × α => decide (x.1 = e.1)) hf
    have h2 := of_decide_eq_true h2
    show (e.1, y.2) ∈ L
    rw [← h2]; exact h1
theorem numB_i (a b i : Int) : numB a b (.int i) = decide (a ≤ i ∧ i ≤ b) := rfl
theorem none_c {i j : Nat} {ρ : Slots} {st : Store} {l : List PyData} {tt : FT} (h8 : ρ[i]? = some (some (.p (.list l)))) (h17 : ρ[j]? = some none) (hl : l.length ≤ LIM) (ht : ∀ d ∈ l, tt (ρ.set j (some (.p d))) st = .ok (false, st)) :
    nLc (iSeq (vVar i)) (gSet j) tt (vVar j) [j] ρ st = .ok (.lst [], st) := by
  have hw : wipeV ρ [j] = ρ := by
    show ρ.set j none = ρ
    apply List.ext_getElem?
    intro m
    rw [List.getElem?_set]
    split
    · rename_i hi
      subst hi
      rw [h17]
      split
      · rfl
      · rename_i hn
        have := (List.getElem?_eq_some_iff.mp h17).1
        exact absurd this hn
    · rfl
  have h17l := (List.getElem?_eq_some_iff.mp h17).1
  have := en_lctA (fi := iSeq (vVar i)) (gt := gSet j) (tt := tt) (fe := vVar j) (vs := [j]) (ρ := ρ) (ρw := ρ) (st := st) (st1 := st) (cc := id) (src := l) (F := id) (bb := fun _ => false) (g := fun d => ρ.set j (some (.p d))) (ei_seq (ev_var h8) (by rw [List.map_id]; rfl)) hw (fun a _ => rfl) ht (fun a _ h => by cases h) hl
  rw [this]
  simp
theorem nil_t {ρ : Slots} {st : Store} {n : FN} (h : n ρ st = .ok (.lst [], st)) (b : Bool) : vBin (eqP b) (vFz n) (vFz (nLst (aNil))) ρ st = .ok (.p (.bool (!b)), st) :=
  ev_bin (ev_fzL h) (ev_fzL (en_lst ea_nil fzL_nil (by simp))) rfl rfl (eq_same b (shaped_nats []).1)
noncomputable def dA_says : FM := entry 2 2 leaveF (sRet (vAndV (vUn (isiP "bool") (vVar 0)) (vBin (eqP false) (vVar 0) (vVar 1))))
theorem say (b c : Bool) (st : Store) : dA_says [.p (.bool b), .p (.bool c)] st = .ok (.p (.bool (decide (b = c))), st) := by
  have h2 : eqP false (.bool b) (.bool c) = .ok (.bool (decide (b = c))) := by
    unfold eqP
    rw [if_pos ⟨shaped_bool b, shaped_bool c⟩]
    congr 2
    cases b <;> cases c <;> simp [PyData.eqv]
  unfold dA_says
  exact ed_ent (EntK.c (EntK.c EntK.z)) rfl (es_ret (ev_andV (ev_un (ev_var rfl) rfl (isi_bb _)) (IfK.t (ev_bin (ev_var rfl) (ev_var rfl) rfl rfl h2)))) (ed_rtF' rfl)
theorem t_of {ρ : Slots} {st : Store} {f : FE} (h : f ρ st = .ok (.p (.bool false), st)) : tNot (vTru (vDef 2 dA_says (aCons f (aCons (vC (.bool false)) (aNil))))) ρ st = .ok (false, st) :=
  ev_not (t := true) (ev_tru (ev_def (ea_cons h (ea_cons ev_c ea_nil)) rfl (say false false st)) rfl (tru_bool _))
theorem t_tr {ρ : Slots} {st : Store} {f : FE} (h : f ρ st = .ok (.p (.bool true), st)) : tNot (vTru (vDef 2 dA_says (aCons f (aCons (vC (.bool true)) (aNil))))) ρ st = .ok (false, st) :=
  ev_not (t := true) (ev_tru (ev_def (ea_cons h (ea_cons ev_c ea_nil)) rfl (say true true st)) rfl (tru_bool _))
noncomputable def dA_alikeR (rc : FM) : FM := entry 3 2 leaveF (sSeq (sIf (vOr (vTru (vUn (isiP "list") (vVar 1))) (vTru (vUn (isiP "tuple") (vVar 1)))) (sSeq (sIf (vOr (asB (vBin (eqP true) (vUn (isiP "list") (vVar 0)) (vUn (isiP "list") (vVar 1)))) (asB (vBin (eqP true) (vUn (isiP "tuple") (vVar 0)) (vUn (isiP "tuple") (vVar 1))))) (sRet (vC (.bool false))) (sNil))
  (sRet (vAndV (vBin (eqP false) (vCall (one lenP) (aCons (vVar 0) (aNil))) (vCall (one lenP) (aCons (vVar 1) (aNil)))) (vBin (eqP false) (vFz (nLc (iRange1 (vCall (one lenP) (aCons (vVar 1) (aNil)))) (gSet 2) (tNot (vTru (vDef 2 rc (aCons (vBinD ixD (vVar 0) (vVar 2)) (aCons (vBinD ixD (vVar 1) (vVar 2)) (aNil)))))) (vVar 2) [2])) (vFz (nLst (aNil))))))) (sNil))
  (sSeq (sIf (asB (vBin (isP false) (vVar 1) (vC .none))) (sRet (vBin (isP false) (vVar 0) (vC .none))) (sNil))
  (sSeq (sIf (vOr (vTru (vUn (isiP "bool") (vVar 1))) (vTru (vUn (isiP "bool") (vVar 0)))) (sRet (vAndV (vUn (isiP "bool") (vVar 0)) (vAndV (vUn (isiP "bool") (vVar 1)) (vBin (eqP false) (vVar 0) (vVar 1))))) (sNil))
  (sSeq (sIf (vTru (vUn (isiP "int") (vVar 1))) (sRet (vAndV (vUn (isiP "int") (vVar 0)) (vBin (eqP false) (vVar 0) (vVar 1)))) (sNil))
  (sRet (vAndV (vUn (isiP "str") (vVar 0)) (vBin (eqP false) (vVar 0) (vVar 1))))))))
noncomputable def dA_alike : Nat → FM
  | 0 => fun _ _ => .bad
  | k + 1 => dA_alikeR (dA_alike k)
/-- what is alike to itself: k: how deep -/
def Alk : Nat → PyData → Prop
  | _, .none => True
  | _, .bool _ => True
  | _, .int _ => True
  | _, .str x => PyData.strOk x = true
  | k + 1, .list l => l.length ≤ 1000000 ∧ ∀ x ∈ l, Alk k x
  | k + 1, .tuple l => l.length ≤ 1000000 ∧ ∀ x ∈ l, Alk k x
  | _, _ => False
theorem alike_self : ∀ (k : Nat) (d : PyData), Alk k d → ∀ st : Store, dA_alike (k + 1) [.p d, .p d] st = .ok (.p (.bool true), st) := by
  have leaf : ∀ (rc : FM) (d : PyData) (st : Store), (d = .none ∨ (∃ b, d = .bool b) ∨ (∃ i, d = .int i) ∨ ∃ x, d = .str x ∧ PyData.strOk x = true) → dA_alikeR rc [.p d, .p d] st = .ok (.p (.bool true), st) := by
    intro rc d st h
    rcases h with rfl | ⟨b, rfl⟩ | ⟨i, rfl⟩ | ⟨x, rfl, hx⟩
    · have h1 : isP false .none .none = .ok (.bool true) := rfl
      unfold dA_alikeR
      simp [h1]
    · have h1 : isP false (.bool b) .none = .ok (.bool false) := rfl
      have h2 : eqP false (.bool b) (.bool b) = .ok (.bool true) := eq_same false (shaped_bool _)
      unfold dA_alikeR
      simp [h1, h2]
    · have h1 : isP false (.int i) .none = .ok (.bool false) := rfl
      unfold dA_alikeR
      simp [h1]
    · have h1 : isP false (.str x) .none = .ok (.bool false) := rfl
      have h2 : eqP false (.str x) (.str x) = .ok (.bool true) := eq_same false (str_ok _ hx)
      unfold dA_alikeR
      simp [h1, h2]
  have seq : ∀ (rc : FM) (l : List PyData) (d : PyData) (st : Store), (d = .list l ∨ d = .tuple l) → l.length ≤ 1000000 → (∀ x ∈ l, rc [.p x, .p x] st = .ok (.p (.bool true), st)) → dA_alikeR rc [.p d, .p d] st = .ok (.p (.bool true), st) := by
    intro rc l d st hd hl hx
    have hlen : vCall (one lenP) (aCons (vVar 1) (aNil)) [some (.p d), some (.p d), none] st = .ok (.p (.int (l.length : Nat)), st) := by
      refine ev_call (ea_cons (ev_var rfl) ea_nil) (pkL_cons rfl pkL_nil) ((one_ap _ _).trans ?_)
      rcases hd with rfl | rfl
      · exact lenP_lst _
      · exact lenP_tup _
    have hlen0 : vCall (one lenP) (aCons (vVar 0) (aNil)) [some (.p d), some (.p d), none] st = .ok (.p (.int (l.length : Nat)), st) := by
      refine ev_call (ea_cons (ev_var rfl) ea_nil) (pkL_cons rfl pkL_nil) ((one_ap _ _).trans ?_)
      rcases hd with rfl | rfl
      · exact lenP_lst _
      · exact lenP_tup _
    have hc : nLc (iRange1 (vCall (one lenP) (aCons (vVar 1) (aNil)))) (gSet 2) (tNot (vTru (vDef 2 rc (aCons (vBinD ixD (vVar 0) (vVar 2)) (aCons (vBinD ixD (vVar 1) (vVar 2)) (aNil)))))) (vVar 2) [2] [some (.p d), some (.p d), none] st = .ok (.lst [], st) := by
      have := en_lctA (fi := iRange1 (vCall (one lenP) (aCons (vVar 1) (aNil)))) (gt := gSet 2) (tt := tNot (vTru (vDef 2 rc (aCons (vBinD ixD (vVar 0) (vVar 2)) (aCons (vBinD ixD (vVar 1) (vVar 2)) (aNil)))))) (fe := vVar 2) (vs := [2]) (ρ := [some (.p d), some (.p d), none]) (ρw := [some (.p d), some (.p d), none]) (st := st) (st1 := st) (cc := natD) (src := List.range l.length) (F := natD) (bb := fun _ => false) (g := fun m => [some (.p d), some (.p d), some (.p (natD m))]) (ei_rangeN hlen hl) rfl (fun a _ => rfl) (fun m hm => ?_) (fun a _ h => by cases h) (by rw [List.length_range, LIM_eq]; omega)
      · rw [this]; simp
      · have hm := List.mem_range.mp hm
        have hg : l[m]? = some l[m] := List.getElem?_eq_getElem hm
        have hi : ∀ i, i < 2 → vBinD ixD (vVar i) (vVar 2) [some (.p d), some (.p d), some (.p (natD m))] st = .ok (.p l[m], st) := fun i h2 => by
          have : ∀ dd, (dd = PyData.list l ∨ dd = .tuple l) → ixD st (.p dd) (.p (natD m)) = .ok l[m] := fun dd h => by
            rcases h with rfl | rfl
            · exact ixN_p (atI_nat hg)
            · exact ixT_p (atI_nat hg)
          match i, h2 with
          | 0, _ => exact ev_binD (ev_var rfl) (ev_var rfl) (this d hd)
          | 1, _ => exact ev_binD (ev_var rfl) (ev_var rfl) (this d hd)
        exact ev_not (t := true) (ev_tru (ev_def (ea_cons (hi 0 (by omega)) (ea_cons (hi 1 (by omega)) ea_nil)) rfl (hx _ (List.getElem_mem hm))) rfl (tru_bool _))
    have hq : ∀ b : Bool, eqP true (.bool b) (.bool b) = .ok (.bool false) := fun b => eq_same true (shaped_bool _)
    unfold dA_alikeR
    refine ed_ent (EntK.c (EntK.c (EntK.n EntK.z))) rfl (es_seq (o := .rt (.p (.bool true))) (es_if (t := true) (st1 := st) ?_ (IfK.t (es_seq (es_if (t := false) (st1 := st) ?_ (IfK.f es_nil)) (SeqK.nx (es_ret (ev_andV (ev_bin hlen0 hlen rfl rfl (eq_same false (shaped_int _))) (IfK.t (nil_t hc false)))))))) SeqK.rt) (ed_rtF' rfl)
    · rcases hd with rfl | rfl
      · exact ev_or (ev_tru (ev_un (ev_var rfl) rfl (isi_ll _)) rfl (tru_bool _)) (IfK.t rfl)
      · exact ev_or (ev_tru (ev_un (ev_var rfl) rfl (isi_tl _)) rfl (tru_bool _)) (IfK.f (ev_tru (ev_un (ev_var rfl) rfl (isi_tt _)) rfl (tru_bool _)))
    · rcases hd with rfl | rfl
      · exact ev_or (ev_asB (ev_bin (ev_un (ev_var rfl) rfl (isi_ll _)) (ev_un (ev_var rfl) rfl (isi_ll _)) rfl rfl (hq _))) (IfK.f (ev_asB (ev_bin (ev_un (ev_var rfl) rfl (isi_lt _)) (ev_un (ev_var rfl) rfl (isi_lt _)) rfl rfl (hq _))))
      · exact ev_or (ev_asB (ev_bin (ev_un (ev_var rfl) rfl (isi_tl _)) (ev_un (ev_var rfl) rfl (isi_tl _)) rfl rfl (hq _))) (IfK.f (ev_asB (ev_bin (ev_un (ev_var rfl) rfl (isi_tt _)) (ev_un (ev_var rfl) rfl (isi_tt _)) rfl rfl (hq _))))
  intro k
  induction k with
  | zero =>
    intro d h st
    cases d with
    | none => exact leaf _ _ st (.inl rfl)
    | bool b => exact leaf _ _ st (.inr (.inl ⟨b, rfl⟩))
    | int i => exact leaf _ _ st (.inr (.inr (.inl ⟨i, rfl⟩)))
    | str x => exact leaf _ _ st (.inr (.inr (.inr ⟨x, rfl, h⟩)))
    | list l => exact h.elim
    | tuple l => exact h.elim
    | dict l => exact h.elim
  | succ k ih =>
    intro d h st
    cases d with
    | none => exact leaf _ _ st (.inl rfl)
    | bool b => exact leaf _ _ st (.inr (.inl ⟨b, rfl⟩))
    | int i => exact leaf _ _ st (.inr (.inr (.inl ⟨i, rfl⟩)))
    | str x => exact leaf _ _ st (.inr (.inr (.inr ⟨x, rfl, h⟩)))
    | list l => exact seq _ l _ st (.inl rfl) h.1 fun x hx => ih x (h.2 x hx) st
    | tuple l => exact seq _ l _ st (.inr rfl) h.1 fun x hx => ih x (h.2 x hx) st
    | dict l => exact h.elim
theorem in_map {α : Type} [DecidableEq α] (f : α → PyData) {x : α} {l : List α} {c : PyData} [dm : Decidable (x ∈ l)] (n : Bool) (hc : c = .list (l.map f) ∨ c = .tuple (l.map f)) (hs : SeqAt.shaped c = true) (hx : SeqAt.shaped (f x) = true) (he : ∀ y, PyData.eqv (f y) (f x) = decide (y = x)) :
    (if n = true then notInP (f x) c else inP (f x) c) = .ok (.bool (decide (x ∈ l) != n)) := by
  have h2 : itemsOf c = some (l.map f) := by rcases hc with rfl | rfl <;> rfl
  have hok : InOk (f x) c := by
    unfold InOk
    rw [hs, h2, hx]; rfl
  have hb : inB (f x) c = decide (x ∈ l) := by
    unfold inB
    rw [h2]
    show ((l.map f).any fun z => PyData.eqv z (f x)) = decide (x ∈ l)
    rw [List.any_map, Bool.eq_iff_iff, List.any_eq_true, decide_eq_true_iff]
    constructor
    · rintro ⟨y, hy, e⟩
      have e : PyData.eqv (f y) (f x) = true := e
      rw [he, decide_eq_true_iff] at e
      rw [← e]; exact hy
    · intro h
      exact ⟨x, h, by show PyData.eqv (f x) (f x) = true; rw [he]; simp⟩
  cases n with
  | false => rw [if_neg Bool.false_ne_true, Bool.bne_false]; unfold inP; rw [if_pos hok, hb]
  | true => rw [if_pos rfl, Bool.bne_true]; unfold notInP; rw [if_pos hok, hb]
abbrev t3D (g : Nat × Nat × Nat) : PyData := .tuple [natD g.1, natD g.2.1, natD g.2.2]
theorem ky_eqv (p q : Nat × Nat) : PyData.eqv (kyD p) (kyD q) = decide (p = q) := by
  obtain ⟨a, b⟩ := p
  obtain ⟨c, d⟩ := q
  have : decide ((a, b) = (c, d)) = (decide ((a : Int) = (c : Int)) && decide ((b : Int) = (d : Int))) := by
    rw [← Bool.decide_and, decide_eq_decide, Prod.mk.injEq]; omega
  rw [this]
  simp [PyData.eqv, PyData.eqvAll]
  first | done | rfl
theorem t3_eqv (p q : Nat × Nat × Nat) : PyData.eqv (t3D p) (t3D q) = decide (p = q) := by
  obtain ⟨a, b, e⟩ := p
  obtain ⟨c, d, g⟩ := q
  have : decide ((a, b, e) = (c, d, g)) = (decide ((a : Int) = (c : Int)) && (decide ((b : Int) = (d : Int)) && decide ((e : Int) = (g : Int)))) := by
    rw [← Bool.decide_and, ← Bool.decide_and, decide_eq_decide, Prod.mk.injEq, Prod.mk.injEq]; omega
  rw [this]
  simp [PyData.eqv, PyData.eqvAll]
  first | done | rfl
theorem shp_map {α : Type} (f : α → PyData) (l : List α) (h : ∀ a, Shp 1 (f a)) : SeqAt.shaped (.list (l.map f)) = true ∧ SeqAt.shaped (.tuple (l.map f)) = true :=
  ⟨(Shp.lst (n := 1) fun x hx => by obtain ⟨a, _, rfl⟩ := List.mem_map.mp hx; exact h a).ok, (Shp.tup (n := 1) fun x hx => by obtain ⟨a, _, rfl⟩ := List.mem_map.mp hx; exact h a).ok⟩
theorem shp_ky (p : Nat × Nat) : Shp 1 (kyD p) := Shp.tup (n := 0) (Shp.ints 0 [(p.1 : Int), (p.2 : Int)])
theorem shp_t3 (p : Nat × Nat × Nat) : Shp 1 (t3D p) := Shp.tup (n := 0) (Shp.ints 0 [(p.1 : Int), (p.2.1 : Int), (p.2.2 : Int)])
theorem in_kyT (n : Bool) (st : Store) (x : Nat × Nat) (l : List (Nat × Nat)) : inD n st (.p (kyD x)) (.p (.tuple (l.map kyD))) = .ok (.bool (decide (x ∈ l) != n)) := in_map kyD n (.inr rfl) (shp_map kyD l shp_ky).2 (shp_ky x).ok fun y => ky_eqv y x
theorem in_kyL (n : Bool) (st : Store) (x : Nat × Nat) (l : List (Nat × Nat)) : inD n st (.p (kyD x)) (.p (.list (l.map kyD))) = .ok (.bool (decide (x ∈ l) != n)) := in_map kyD n (.inl rfl) (shp_map kyD l shp_ky).1 (shp_ky x).ok fun y => ky_eqv y x
theorem in_t3L (n : Bool) (st : Store) (x : Nat × Nat × Nat) (l : List (Nat × Nat × Nat)) : inD n st (.p (t3D x)) (.p (.list (l.map t3D))) = .ok (.bool (decide (x ∈ l) != n)) := in_map t3D n (.inl rfl) (shp_map t3D l shp_t3).1 (shp_t3 x).ok fun y => t3_eqv y x
end VL

/-! all orders of some numbers, row by row; and a thing is the same as itself -/
namespace VL
open PySem PySem.Spec PyProof.Rows L2
open PySem.W (Datum DatumOrd minOf maxOf Tup)
def without (left : List Nat) (i : Nat) : List Nat := left.filter fun k => decide (k ≠ i)
theorem without_perm {left : List Nat} (hn : left.Nodup) {i : Nat} (hi : i ∈ left) : left.Perm (i :: without left i) := by
  unfold without
  induction left with
  | nil => cases hi
  | cons x l ih =>
    have hn := List.nodup_cons.mp hn
    rcases List.mem_cons.mp hi with rfl | hi
    · rw [List.filter_cons_of_neg (by simp)]
      refine List.Perm.cons _ ?_
      rw [List.filter_eq_self.mpr]
      intro y hy
      simp; rintro rfl; exact hn.1 hy
    · have hne : x ≠ i := fun e => hn.1 (e ▸ hi)
      rw [List.filter_cons_of_pos (by simpa using hne)]
      exact ((ih hn.2 hi).cons x).trans (.swap _ _ _)
theorem without_nodup {left : List Nat} (hn : left.Nodup) (i : Nat) : (without left i).Nodup := hn.filter _
/-- one tuple is not behind another one -/
def lexLe : List Nat → List Nat → Prop
  | [], _ => True
  | _ :: _, [] => False
  | a :: l, b :: m => a < b ∨ (a = b ∧ lexLe l m)
def ext (many : Nat) (one : List Nat) : List (List Nat) := ((List.range many).filter fun k => decide (k ∉ one)).map fun k => one ++ [k]
def fittings (many : Nat) : Nat → List (List Nat)
  | 0 => [[]]
  | t + 1 => (fittings many t).flatMap (ext many)
theorem fit_mem {many : Nat} : ∀ {t : Nat} {one : List Nat}, one ∈ fittings many t ↔ one.length = t ∧ one.Nodup ∧ ∀ k ∈ one, k < many
  | 0, one => by
    simp only [fittings, List.mem_singleton]
    constructor
    · rintro rfl; simp
    · intro h; exact List.eq_nil_of_length_eq_zero h.1
  | t + 1, one => by
    simp only [fittings, List.mem_flatMap, ext, List.mem_map, List.mem_filter, List.mem_range, decide_eq_true_eq]
    constructor
    · rintro ⟨o, ho, k, ⟨hk, hko⟩, rfl⟩
      obtain ⟨h1, h2, h3⟩ := fit_mem.mp ho
      refine ⟨by simp [h1], ?_, fun x hx => ?_⟩
      · rw [List.nodup_append]
        exact ⟨h2, by simp, fun a ha b hb => by rw [List.mem_singleton.mp hb]; rintro rfl; exact hko ha⟩
      · rcases List.mem_append.mp hx with hx | hx
        · exact h3 x hx
        · rw [List.mem_singleton.mp hx]; exact hk
    · rintro ⟨h1, h2, h3⟩
      have hne : one ≠ [] := by rintro rfl; simp at h1
      have e := List.dropLast_concat_getLast hne
      have hl : one.dropLast.length = t := by rw [List.length_dropLast, h1]; rfl
      rw [← e] at h2
      rw [List.nodup_append] at h2
      refine ⟨one.dropLast, fit_mem.mpr ⟨hl, h2.1, fun k hk => h3 k (List.dropLast_subset _ hk)⟩, one.getLast hne, ⟨h3 _ (List.getLast_mem hne), fun hk => h2.2.2 _ hk _ (List.mem_singleton.mpr rfl) rfl⟩, e⟩
theorem perm_of_nodup : ∀ {n : Nat} {l m : List Nat}, l.length = n → m.length = n → l.Nodup → (∀ k ∈ l, k ∈ m) → m.Nodup → l.Perm m
  | 0, l, m, h1, h2, _, _, _ => by rw [List.eq_nil_of_length_eq_zero h1, List.eq_nil_of_length_eq_zero h2]
  | n + 1, [], m, h1, _, _, _, _ => by simp at h1
  | n + 1, x :: l, m, h1, h2, h3, h4, h5 => by
    have hx := h4 x List.mem_cons_self
    have hp := without_perm h5 hx
    have h3 := List.nodup_cons.mp h3
    have := perm_of_nodup (n := n) (l := l) (m := without m x) (by simpa using h1) (by have := hp.length_eq; simp at this; omega) h3.2 (fun k hk => by
      have := hp.mem_iff.mp (h4 k (List.mem_cons_of_mem _ hk))
      rcases List.mem_cons.mp this with rfl | h
      · exact absurd hk h3.1
      · exact h) (without_nodup h5 x)
    exact (this.cons x).trans hp.symm
theorem fit_perm {many : Nat} {σ : List Nat} : σ ∈ fittings many many ↔ σ.Perm (List.range many) := by
  rw [fit_mem]
  constructor
  · rintro ⟨h1, h2, h3⟩
    exact perm_of_nodup h1 List.length_range h2 (fun k hk => List.mem_range.mpr (h3 k hk)) List.nodup_range
  · intro h
    exact ⟨by rw [h.length_eq, List.length_range], h.nodup_iff.mpr List.nodup_range, fun k hk => List.mem_range.mp (h.mem_iff.mp hk)⟩
theorem natI (l : List Nat) : l.map natD = (l.map fun (k : Nat) => (k : Int)).map PyData.int := by rw [List.map_map]; rfl
@[reducible] noncomputable def dP_fits_c1 : FE := vBin addP (vVar 4) (vTup (aCons (vVar 5) (aNil)))
@[reducible] noncomputable def dP_fits_t1 : FT := asB (vBinD (inD true) (vVar 5) (vVar 4))
@[reducible] noncomputable def dP_fits_b1 : FS := sSet 3 (vBin addP (vVar 3) (vFz (nLc (iRange1 (vVar 0)) (gSet 5) (dP_fits_t1) (dP_fits_c1) [5])))
@[reducible] noncomputable def dP_fits_b2 : FS := sSeq (sSet 3 (vFz (nLst (aNil))))
  (sSeq (sFor (iSeq (vVar 1)) (gSet 4) (dP_fits_b1))
  (sSet 1 (vVar 3)))
noncomputable def dP_fits : FM := entry 6 1 leaveF (sSeq (sSet 1 (vFz (nLst (aCons (vTup (aNil)) (aNil)))))
  (sSeq (sFor (iRange1 (vVar 0)) (gSet 2) (dP_fits_b2))
  (sRet (vVar 1))))
theorem lex_tle : ∀ {a b : List Nat}, lexLe a b → a.length = b.length → tle (α := Tup Int) ⟨a.map fun (k : Nat) => (k : Int)⟩ ⟨b.map fun (k : Nat) => (k : Int)⟩
  | [], [], _, _ => rfl
  | x :: a, y :: b, h, hl => by
    show (if (y : Int) = (x : Int) then DatumOrd.lt (α := Tup Int) ⟨b.map fun (k : Nat) => (k : Int)⟩ ⟨a.map fun (k : Nat) => (k : Int)⟩ else DatumOrd.lt (y : Int) (x : Int)) = false
    rcases h with h | ⟨rfl, h⟩
    · rw [if_neg (by omega)]
      show decide ((y : Int) < (x : Int)) = false
      rw [decide_eq_false_iff_not]; omega
    · rw [if_pos rfl]
      exact lex_tle h (by simpa using hl)
abbrev rowD (l : List Nat) : PyData := .tuple (l.map natD)
theorem ext_len (many : Nat) (one : List Nat) : (ext many one).length ≤ many := by
  unfold ext
  rw [List.length_map]
  have := List.length_filter_le (fun k => decide (k ∉ one)) (List.range many)
  rw [List.length_range] at this; exact this
theorem exts_len (many : Nat) : ∀ l : List (List Nat), (l.flatMap (ext many)).length ≤ many * l.length
  | [] => by simp
  | a :: l => by
    rw [List.flatMap_cons, List.length_append, List.length_cons, Nat.mul_succ]
    have := ext_len many a
    have := exts_len many l
    omega
theorem fits_len {many : Nat} (h : many ≤ 6) : ∀ t, t ≤ 6 → (fittings many t).length ≤ 6 ^ t
  | 0, _ => by simp [fittings]
  | t + 1, ht => by
    have h1 := fits_len h t (by omega)
    have h2 := exts_len many (fittings many t)
    rw [fittings, Nat.pow_succ]
    have : many * (fittings many t).length ≤ 6 * 6 ^ t := Nat.mul_le_mul h h1
    omega
abbrev FT_ (many : Nat) (F L : List (List Nat)) (x2 x4 : Option Vd) : Slots := [some (.p (natD many)), some (.p (.list (F.map rowD))), x2, some (.p (.list (L.map rowD))), x4, none]
theorem fold_flat' {α β : Type} (g : α → List β) : ∀ (l : List α) (a : List β), l.foldl (fun B i => B ++ g i) a = a ++ l.flatMap g := by
  intro l
  induction l with
  | nil => intro a; simp
  | cons x l ih => intro a; rw [List.foldl_cons, ih, List.flatMap_cons, List.append_assoc]
theorem fit_b1 {many : Nat} (h5 : many ≤ 6) {F L : List (List Nat)} {one : List Nat} {x2 : Option Vd} (hl : L.length ≤ 100000) (h1 : one.length ≤ 1000) (st : Store) :
    dP_fits_b1 (FT_ many F L x2 (some (.p (rowD one)))) st = .ok (.nx, FT_ many F (L ++ ext many one) x2 (some (.p (rowD one))), st) := by
  have h := en_lctA (fi := iRange1 (vVar 0)) (gt := gSet 5) (tt := dP_fits_t1) (fe := dP_fits_c1) (vs := [5]) (cc := natD) (src := List.range many) (bb := fun k => decide (k ∈ one) != true) (F := fun k => rowD (one ++ [k])) (st := st) (st1 := st) (ρ := FT_ many F L x2 (some (.p (rowD one)))) (ρw := FT_ many F L x2 (some (.p (rowD one)))) (g := fun k => [some (.p (natD many)), some (.p (.list (F.map rowD))), x2, some (.p (.list (L.map rowD))), some (.p (rowD one)), some (.p (natD k))]) (ei_rangeN (ev_var rfl) (by omega)) rfl (fun _ _ => rfl) (fun k _ => ev_asB (ev_binD (ev_var rfl) (ev_var rfl) (inD_natT true st k one))) (fun k _ _ => by
      have := ev_bin (o := addP) (f := vVar 4) (h := vTup (aCons (vVar 5) (aNil))) (ρ := [some (.p (natD many)), some (.p (.list (F.map rowD))), x2, some (.p (.list (L.map rowD))), some (.p (rowD one)), some (.p (natD k))]) (st := st) (ev_var rfl) (ev_tup (ea_cons (ev_var rfl) ea_nil) rfl (lim_lit (n := 1) rfl (by decide))) rfl rfl (addP_tup (a := one.map natD) (b := [natD k]) (by rw [List.length_map, LIM_eq]; show _ + 1 ≤ _; omega))
      rw [show one.map natD ++ [natD k] = (one ++ [k]).map natD by rw [List.map_append]; rfl] at this
      exact this) (by rw [List.length_range, LIM_eq]; omega)
  have e : ((List.range many).filter fun k => decide (k ∈ one) != true).map (fun k => rowD (one ++ [k])) = (ext many one).map rowD := by
    unfold ext
    rw [List.map_map]
    congr 1
    refine List.filter_congr fun k _ => ?_
    by_cases hk : k ∈ one <;> simp [hk]
  rw [e] at h
  have hel := ext_len many one
  have := es_set (i := 3) (ρ' := FT_ many F (L ++ ext many one) x2 (some (.p (rowD one)))) (ev_bin (o := addP) (f := vVar 3) (ρ := FT_ many F L x2 (some (.p (rowD one)))) (st := st) (ev_var rfl) (ev_fzL h) rfl rfl (addP_lst (a := L.map rowD) (b := (ext many one).map rowD) (by rw [List.length_map, List.length_map, LIM_eq]; omega))) (by rw [← List.map_append]; rfl)
  exact this
theorem fit_b2 {many : Nat} (h5 : many ≤ 6) {F : List (List Nat)} {x2 x3 x4 : Option Vd} (hl : F.length ≤ 10000) (h1 : ∀ one ∈ F, one.length ≤ 1000) (st : Store) :
    ∃ y4, dP_fits_b2 [some (.p (natD many)), some (.p (.list (F.map rowD))), x2, x3, x4, none] st = .ok (.nx, FT_ many (F.flatMap (ext many)) (F.flatMap (ext many)) x2 y4, st) := by
  have hloop := forG_loopP (src := F.map rowD) (gt := gSet 4) (body := dP_fits_b1) rowD (fun (B : List (List Nat)) one => .inl (B ++ ext many one))
    (fun B ρ s' => (∃ y4, ρ = FT_ many F B x2 y4) ∧ s' = st) (fun _ => True) (l := F) (s0 := []) (ρ := FT_ many F [] x2 x4) (st := st)
    (fun p a q hpq B ρ s' hp ⟨⟨y4, hρ⟩, hs⟩ => by
      subst hρ hs
      rw [runF, fold_flat'] at hp
      have hB : B = p.flatMap (ext many) := by
        have : (Sum.inl ([] ++ p.flatMap (ext many)) : List (List Nat) ⊕ PyData) = Sum.inl B := hp
        injection this with this
        rw [← this]; rfl
      have hpl : p.length ≤ F.length := by rw [hpq]; simp
      have := exts_len many p
      have h3 : many * p.length ≤ 6 * 10000 := Nat.mul_le_mul h5 (by omega)
      exact ⟨_, rfl, _, _, .inl (fit_b1 h5 (by rw [hB]; omega) (h1 a (by rw [hpq]; simp)) _), ⟨_, rfl⟩, rfl⟩) ⟨⟨_, rfl⟩, rfl⟩
  rw [runF, fold_flat'] at hloop
  obtain ⟨ρ', s', e, ⟨y4, rfl⟩, rfl⟩ := hloop
  rw [List.nil_append] at e
  refine ⟨y4, es_seq (es_set (ρ' := FT_ many F [] x2 x4) (ev_fzL (en_lst ea_nil fzL_nil (by simp))) rfl) (SeqK.nx (es_seq (es_for (ei_seq (ev_var rfl) rfl) e) (SeqK.nx (es_set (ev_var rfl) rfl))))⟩
theorem fittings_ok {many : Nat} (h5 : many ≤ 6) (st : Store) : dP_fits [.p (natD many)] st = .ok (.p (.list ((fittings many many).map rowD)), st) := by
  obtain ⟨ρ', st', e, x2, x3, x4, rfl, rfl⟩ := forG_ix (src := (List.range many).map natD) (gt := gSet 2) (body := dP_fits_b2) (ds := (List.range many).map natD) (st := st) (ρ := [some (.p (natD many)), some (.p (.list [rowD []])), none, none, none, none])
    (fun i ρ s => ∃ x2 x3 x4, ρ = [some (.p (natD many)), some (.p (.list ((fittings many i).map rowD))), x2, x3, x4, none] ∧ s = st)
    (fun i d ρ s hi ⟨x2, x3, x4, hρ, hs⟩ => by
      subst hρ hs
      have hij : i < many := by have := (List.getElem?_eq_some_iff.mp hi).1; simpa using this
      have hl := fits_len h5 i (by omega)
      have h55 : 6 ^ i ≤ 6 ^ 5 := Nat.pow_le_pow_right (by omega) (by omega)
      obtain ⟨y4, e⟩ := fit_b2 h5 (F := fittings many i) (x2 := some (.p d)) (x3 := x3) (x4 := x4) (by omega) (fun one ho => by have := (fit_mem.mp ho).1; omega) s
      exact ⟨_, _, _, rfl, .inl e, _, _, _, rfl, rfl⟩)
    ⟨_, _, _, rfl, rfl⟩
  rw [List.length_map, List.length_range] at e
  unfold dP_fits
  exact ed_ent (EntK.c (EntK.n (EntK.n (EntK.n (EntK.n (EntK.n EntK.z)))))) rfl (es_seq (es_set (ev_fzL (en_lst (ea_cons (ev_tup ea_nil rfl (lim_lit (n := 0) rfl (by decide))) ea_nil) rfl (lim_lit (n := 1) rfl (by decide)))) rfl) (SeqK.nx (es_seq (es_for (ei_rangeN (ev_var rfl) (by omega)) e) (SeqK.nx (es_ret (ev_var rfl)))))) (ed_rtF' rfl)
/-! ### `_law_same` -/
noncomputable def dS_sameR_b1 (rc : FM) : FS := sIf (tNot (vTru (vDef 2 rc (aCons (vBinD ixD (vVar 0) (vVar 2)) (aCons (vBinD ixD (vVar 1) (vVar 2)) (aNil)))))) (sRet (vC (.bool false))) (sNil)
noncomputable def dS_sameR (rc : FM) : FM := entry 3 2 leaveF (sSeq (sIf (vOr (asB (vBin (isP false) (vVar 1) (vC .none))) (asB (vBin (isP false) (vVar 0) (vC .none)))) (sRet (vAndV (vBin (isP false) (vVar 1) (vC .none)) (vBin (isP false) (vVar 0) (vC .none)))) (sNil))
  (sSeq (sIf (vOr (vTru (vUn (isiP "tuple") (vVar 1))) (vTru (vUn (isiP "list") (vVar 1)))) (sSeq (sIf (vOr (asB (vBin (eqP true) (vUn (isiP "tuple") (vVar 1)) (vUn (isiP "tuple") (vVar 0)))) (asB (vBin (eqP true) (vUn (isiP "list") (vVar 1)) (vUn (isiP "list") (vVar 0))))) (sRet (vC (.bool false))) (sNil))
  (sSeq (sIf (asB (vBin (eqP true) (vCall (one lenP) (aCons (vVar 0) (aNil))) (vCall (one lenP) (aCons (vVar 1) (aNil))))) (sRet (vC (.bool false))) (sNil))
  (sSeq (sFor (iRange1 (vCall (one lenP) (aCons (vVar 1) (aNil)))) (gSet 2) ((dS_sameR_b1 rc)))
  (sRet (vC (.bool true)))))) (sNil))
  (sSeq (sIf (asB (vBin (eqP true) (vUn (isiP "bool") (vVar 1)) (vUn (isiP "bool") (vVar 0)))) (sRet (vC (.bool false))) (sNil))
  (sSeq (sIf (vOr (asB (vBin (eqP true) (vUn (isiP "int") (vVar 1)) (vUn (isiP "int") (vVar 0)))) (asB (vBin (eqP true) (vUn (isiP "str") (vVar 1)) (vUn (isiP "str") (vVar 0))))) (sRet (vC (.bool false))) (sNil))
  (sRet (vBin (eqP false) (vVar 0) (vVar 1)))))))
noncomputable def dS_same : Nat → FM
  | 0 => fun _ _ => .bad
  | k + 1 => dS_sameR (dS_same k)
theorem isN_not {d : PyData} (h : d ≠ .none) : isP false d .none = .ok (.bool false) := by cases d <;> first | exact absurd rfl h | rfl
theorem same_leaf {rc : FM} {d : PyData} {st : Store} {bt bl : Bool} (hn : d ≠ .none) (h1 : isiP "tuple" d = .ok (.bool false)) (h2 : isiP "list" d = .ok (.bool false)) {b1 b2 b3 : Bool} (h3 : isiP "bool" d = .ok (.bool b1)) (h4 : isiP "int" d = .ok (.bool b2)) (h5 : isiP "str" d = .ok (.bool b3)) (hs : SeqAt.shaped d = true) : dS_sameR rc [.p d, .p d] st = .ok (.p (.bool true), st) := by
  have ebb : ∀ b : Bool, eqP true (.bool b) (.bool b) = .ok (.bool false) := fun b => (eq_same true (shaped_bool b)).trans rfl
  unfold dS_sameR
  refine ed_ent (EntK.c (EntK.c (EntK.n EntK.z))) rfl (es_seq (es_if (t := false) (ev_or (t := false) (ev_asB (ev_bin (ev_var rfl) ev_c rfl rfl (isN_not hn))) (IfK.f (ev_asB (ev_bin (ev_var rfl) ev_c rfl rfl (isN_not hn))))) (IfK.f es_nil)) (SeqK.nx
    (es_seq (es_if (t := false) (ev_or (t := false) (ev_tru (ev_un (ev_var rfl) rfl h1) rfl (tru_bool _)) (IfK.f (ev_tru (ev_un (ev_var rfl) rfl h2) rfl (tru_bool _)))) (IfK.f es_nil)) (SeqK.nx
    (es_seq (es_if (t := false) (ev_asB (ev_bin (ev_un (ev_var rfl) rfl h3) (ev_un (ev_var rfl) rfl h3) rfl rfl (ebb b1))) (IfK.f es_nil)) (SeqK.nx
    (es_seq (es_if (t := false) (ev_or (t := false) (ev_asB (ev_bin (ev_un (ev_var rfl) rfl h4) (ev_un (ev_var rfl) rfl h4) rfl rfl (ebb b2))) (IfK.f (ev_asB (ev_bin (ev_un (ev_var rfl) rfl h5) (ev_un (ev_var rfl) rfl h5) rfl rfl (ebb b3))))) (IfK.f es_nil)) (SeqK.nx
    (es_ret (ev_bin (ev_var rfl) (ev_var rfl) rfl rfl (eq_same false hs))))))))))) (ed_rtF' rfl)
theorem same_seq {rc : FM} {d : PyData} {l : List PyData} (hd : d = .list l ∨ d = .tuple l) (hl : l.length ≤ 1000000) (h : ∀ x ∈ l, ∀ st : Store, rc [.p x, .p x] st = .ok (.p (.bool true), st)) (st : Store) : dS_sameR rc [.p d, .p d] st = .ok (.p (.bool true), st) := by
  have ebb : ∀ b : Bool, eqP true (.bool b) (.bool b) = .ok (.bool false) := fun b => (eq_same true (shaped_bool b)).trans rfl
  have hn : d ≠ .none := by rcases hd with rfl | rfl <;> (intro h; cases h)
  obtain ⟨b1, h1⟩ : ∃ b, isiP "tuple" d = .ok (.bool b) := by rcases hd with rfl | rfl; exact ⟨_, isi_lt _⟩; exact ⟨_, isi_tt _⟩
  obtain ⟨b2, h2⟩ : ∃ b, isiP "list" d = .ok (.bool b) := by rcases hd with rfl | rfl; exact ⟨_, isi_ll _⟩; exact ⟨_, isi_tl _⟩
  have hb : (b1 || b2) = true := by
    rcases hd with rfl | rfl
    · rw [isi_ll] at h2; injection h2 with h2; injection h2 with h2; rw [← h2]; simp
    · rw [isi_tt] at h1; injection h1 with h1; injection h1 with h1; rw [← h1]; simp
  have hlen : lenP d = .ok (.int (l.length : Int)) := by rcases hd with rfl | rfl <;> rfl
  have hix : ∀ (i : Nat) (x : PyData), l[i]? = some x → ∀ st : Store, ixD st (.p d) (.p (natD i)) = .ok x := fun i x hx st => by
    rcases hd with rfl | rfl
    · show ixD st (.p (.list l)) (.p (.int (i : Int))) = _; rw [ixD_lst, L2.atI_nat hx]; rfl
    · show ixD st (.p (.tuple l)) (.p (.int (i : Int))) = _; rw [ixD_tup, L2.atI_nat hx]; rfl
  obtain ⟨ρ', st', e, x2, rfl, rfl⟩ := forG_ix (src := (List.range l.length).map natD) (gt := gSet 2) (body := dS_sameR_b1 rc) (ds := (List.range l.length).map natD) (st := st) (ρ := [some (.p d), some (.p d), none])
    (fun _ ρ s => ∃ x2, ρ = [some (.p d), some (.p d), x2] ∧ s = st)
    (fun i x ρ s hi ⟨x2, hρ, hs⟩ => by
      subst hρ hs
      obtain ⟨hil, hx⟩ : i < l.length ∧ x = natD i := by
        have := List.getElem?_eq_some_iff.mp hi
        obtain ⟨h1, h2⟩ := this
        exact ⟨by simpa using h1, by rw [← h2]; simp⟩
      subst hx
      have hg := List.getElem?_eq_getElem hil
      refine ⟨[some (.p d), some (.p d), some (.p (natD i))], [some (.p d), some (.p d), some (.p (natD i))], s, rfl, .inl ?_, _, rfl, rfl⟩
      exact es_if (t := false) (ev_not (t := true) (ev_tru (ev_def (ea_cons (ev_binD (ev_var rfl) (ev_var rfl) (hix i _ hg s)) (ea_cons (ev_binD (ev_var rfl) (ev_var rfl) (hix i _ hg s)) ea_nil)) rfl (h _ (List.getElem_mem hil) s)) rfl (tru_bool _))) (IfK.f es_nil))
    ⟨none, rfl, rfl⟩
  unfold dS_sameR
  refine ed_ent (EntK.c (EntK.c (EntK.n EntK.z))) rfl (es_seq (es_if (t := false) (ev_or (t := false) (ev_asB (ev_bin (ev_var rfl) ev_c rfl rfl (isN_not hn))) (IfK.f (ev_asB (ev_bin (ev_var rfl) ev_c rfl rfl (isN_not hn))))) (IfK.f es_nil)) (SeqK.nx
    (es_seq (es_if (t := true) (rT (ev_orG (ev_tru (ev_un (ev_var rfl) rfl h1) rfl (tru_bool _)) fun _ => ev_tru (ev_un (ev_var rfl) rfl h2) rfl (tru_bool _)) hb) (IfK.t
      (es_seq (es_if (t := false) (ev_or (t := false) (ev_asB (ev_bin (ev_un (ev_var rfl) rfl h1) (ev_un (ev_var rfl) rfl h1) rfl rfl (ebb b1))) (IfK.f (ev_asB (ev_bin (ev_un (ev_var rfl) rfl h2) (ev_un (ev_var rfl) rfl h2) rfl rfl (ebb b2))))) (IfK.f es_nil)) (SeqK.nx
      (es_seq (es_if (t := false) (ev_asB (ev_bin (ev_call (ea_cons (ev_var rfl) ea_nil) (pkL_cons rfl pkL_nil) hlen) (ev_call (ea_cons (ev_var rfl) ea_nil) (pkL_cons rfl pkL_nil) hlen) rfl rfl ((eqP_int true _ _).trans (by simp)))) (IfK.f es_nil)) (SeqK.nx
      (es_seq (es_for (ei_rangeN (ev_call (ea_cons (ev_var rfl) ea_nil) (pkL_cons rfl pkL_nil) hlen) hl) e) (SeqK.nx (es_ret ev_c))))))))) SeqK.rt))) (ed_rtF' rfl)
/-- a thing is the same as itself -/
theorem same_self : ∀ (k : Nat) (d : PyData), Alk k d → ∀ st : Store, dS_same (k + 1) [.p d, .p d] st = .ok (.p (.bool true), st)
  | k, .none, _, st => by
    show dS_sameR _ _ _ = _
    unfold dS_sameR
    exact ed_ent (EntK.c (EntK.c (EntK.n EntK.z))) rfl (es_seq (es_if (t := true) (ev_or (t := true) (ev_asB (ev_bin (ev_var rfl) ev_c rfl rfl rfl)) (IfK.t rfl)) (IfK.t (es_ret (ev_andV (t := true) (ev_bin (ev_var rfl) ev_c rfl rfl rfl) (IfK.t (ev_bin (ev_var rfl) ev_c rfl rfl rfl)))))) SeqK.rt) (ed_rtF' rfl)
  | k, .bool b, _, st => same_leaf (bt := true) (bl := true) (by intro h; cases h) (isi_bt b) (isi_bl b) (isi_bb b) (isi_bi b) (isi_bs b) (shaped_bool b)
  | k, .int b, _, st => same_leaf (bt := true) (bl := true) (by intro h; cases h) (isi_it b) (isi_il b) (isi_ib b) (isi_ii b) (isi_is b) (Shp.int 0 b).ok
  | k, .str x, h, st => same_leaf (bt := true) (bl := true) (by intro h; cases h) (isi_st x) (isi_sl x) (isi_sb x) (isi_si x) (isi_ss x) (str_ok x (by cases k <;> exact h))
  | k + 1, .list l, h, st => same_seq (.inl rfl) h.1 (fun x hx st => same_self k x (h.2 x hx) st) st
  | 0, .dict _, h, _ => h.elim
  | k + 1, .dict _, h, _ => h.elim
  | k + 1, .tuple l, h, st => same_seq (.inr rfl) h.1 (fun x hx st => same_self k x (h.2 x hx) st) st
/-! ### sorted numbers -/
abbrev asc (l : List Nat) : Prop := l.Pairwise (· ≤ ·)
def srt (l : List Nat) : List Nat := l.mergeSort fun a b => decide (a ≤ b)
theorem srt_perm (l : List Nat) : (srt l).Perm l := List.mergeSort_perm _ _
theorem srt_asc (l : List Nat) : asc (srt l) := by
  have := List.pairwise_mergeSort (le := fun a b : Nat => decide (a ≤ b)) (fun a b c h1 h2 => by simp at *; omega) (fun a b => by simp; omega) l
  exact this.imp fun h => by simpa using h
theorem asc_uniq {l m : List Nat} (h1 : asc l) (h2 : asc m) (h : l.Perm m) : l = m :=
  h.eq_of_pairwise (fun a b _ _ h3 h4 => Nat.le_antisymm h3 h4) h1 h2
theorem srt_eq {l m : List Nat} (h : l.Perm m) : srt l = srt m := asc_uniq (srt_asc l) (srt_asc m) (((srt_perm l).trans h).trans (srt_perm m).symm)
theorem sumN (l : List Nat) : sumP (.list (l.map natD)) = .ok (natD l.sum) := by
  rw [natI, sumP_lst]
  congr 2
  induction l with
  | nil => rfl
  | cons a l ih => rw [List.map_cons, List.sum_cons, List.sum_cons, ih]; omega
theorem srtD (l : List Nat) : sortD (l.map natD) = (srt l).map natD := by
  rw [natI, natI]
  refine sortI_perm ((srt_perm l).symm.map _) ?_
  rw [List.pairwise_map]
  exact (srt_asc l).imp fun h => by omega
theorem eq_nl (n : Bool) (a b : List Nat) : eqP n (.list (a.map natD)) (.list (b.map natD)) = .ok (.bool (decide (a = b) != n)) := by
  have := eqP_td n (a.map fun (k : Nat) => (k : Int)) (b.map fun (k : Nat) => (k : Int))
  have e : ∀ l : List Nat, td (l.map fun (k : Nat) => (k : Int)) = .list (l.map natD) := fun l => by
    rw [natI]; rfl
  rw [e, e] at this
  rw [this]
  have : decide ((a.map fun (k : Nat) => (k : Int)) = b.map fun (k : Nat) => (k : Int)) = decide (a = b) := by
    rw [decide_eq_decide]
    refine ⟨fun h => ?_, fun h => by rw [h]⟩
    exact List.map_inj_right (fun x y hxy => by omega) |>.mp h
  rw [this]
theorem en_rangeN {f : FE} {ρ : Slots} {st st1 : Store} {j : Nat} (h1 : f ρ st = .ok (.p (.int (j : Int)), st1)) (hj : j ≤ 1000000) : nRange (rg1 f) ρ st = .ok (.lst ((List.range j).map natD), st1) := by
  rw [nRange_ap, rg1_ap, h1, R.ok_bind]
  show (if RgOk 0 (j : Int) then _ else _) = _
  rw [if_pos (by unfold RgOk; omega), rangeD_nat]
theorem srt_perm_range {r : List Nat} {n : Nat} : srt r = List.range n ↔ r.Perm (List.range n) :=
  ⟨fun h => by rw [← h]; exact (srt_perm r).symm, fun h => asc_uniq (srt_asc r) (List.pairwise_lt_range.imp fun h => Nat.le_of_lt h) ((srt_perm r).trans h)⟩
end VL

set_option maxHeartbeats 2000000
/-! while an exception is handled: walks over lists, list comprehensions -/
namespace VL
open PySem PySem.Spec PyProof.Rows L2 HotX L2H
section
variable {prog : Program} {w : World} {A : Around} {E : Value → Shared → Prop} {s : Shared}
theorem pyNext_list_end_hot {it l x1 : Addr} {i : Nat} {items : Array Value} {Q : Option Value → Shared → Prop} (hot : HotAt A x1 s.heap) (hne : x1 ≠ it)
    (hit : s.heap.IsListIter it l i) (hl : s.heap.IsList l items) (hx : items[i]? = none)
    (hQ : ∀ h', Heap.ExtBut it s.heap h' → Q none { s with heap := h' }) : wpAny (model prog w) A (pyNext (.ref it)) Q E s := by
  obtain ⟨o, ho, hc, hd⟩ := id hit
  obtain ⟨ol, hol, _, nl, hdl⟩ := hl
  obtain ⟨hh, o1, vs1, h1, d1, c1⟩ := hot
  unfold pyNext
  refine wpAny_bind (wpAny_attempt (wpAny_callSpecial?_slot (name := Str.ofString "__next__") hit.typeIs slot_listiter_next
    (wpAny_call_entry slot_listiter_next hit.typeIs entry_listiter_next ?_ (args_listiter_next _))))
  show wpAny _ _ (field (.ref it) 0 >>= _) _ _ s
  refine wpAny_bind (wpAny_field ho hd (x := .ref l) rfl ?_)
  show wpAny _ _ (if (Value.ref l == Value.none) = true then _ else _) _ _ s
  rw [if_neg (show ¬ ((Value.ref l == Value.none) = true) from Bool.false_ne_true)]
  show wpAny _ _ (field (.ref it) 1 >>= _) _ _ s
  refine wpAny_bind (wpAny_field ho hd (x := .int i 0) rfl ?_)
  show wpAny _ _ (seqItems? (.ref l) >>= _) _ _ s
  refine wpAny_bind (wpAny_seqItems hol hdl ?_)
  simp only [Int.toNat_natCast, hx]
  refine wpAny_bind (wpAny_rule (wpAny_bind (wpAny_setField ho hd (by simp) ?_)))
  show wpAny _ _ (newExc (.type "StopIteration") [] >>= _) _ _ _
  refine wpAny_bind ?_
  simp only [newExc, newTuple]
  refine wpAny_bind (wpAny_newObj_type ?_ (by size_fits))
  refine wpAny_bind (m := firstArgMember _ _) (wpAny_of_eq (a := Value.none) (by first | rfl | (simp only [firstArgMember]; rfl)) ?_)
  refine wpAny_newObj_type ?_ (by size_fits)
  have g1 : ∀ h0 : Heap, h0.get? x1 = some o1 → (h0.update it (Obj.mapFields (·.setIfInBounds 0 Value.none))).get? x1 = some o1 := fun h0 e => by
    rw [Heap.get?_update_other _ _ (Ne.symm hne)]; exact e
  refine raiseNew_hot ⟨hh, o1, vs1, Heap.get?_push_of_some _ (Heap.get?_push_of_some _ (g1 _ h1)), d1, c1⟩ (Nat.ne_of_lt (Heap.lt_size (Heap.get?_push_of_some _ (g1 _ h1)))) (Heap.get?_push_size _ rfl) rfl (by first | (simp; done) | (simp; omega) | (simp only [Array.size_append]; simp; omega)) ?_
  refine wpAny_bind (wpAny_isInstance (T := "StopIteration") (b := true) ⟨_, Heap.get?_update_self _ (Heap.get?_push_size _ rfl) rfl, rfl⟩ isSubtype_stop ?_)
  refine wpAny_pure (hQ _ fun b o hb e => ?_)
  have e1 : (s.heap.update it (Obj.mapFields (·.setIfInBounds 0 Value.none))).get? b = some o := by rw [Heap.get?_update_other _ _ (Ne.symm hb)]; exact e
  rw [Heap.get?_update_other _ _ (Nat.ne_of_gt (Heap.lt_size (Heap.get?_push_of_some _ e1)))]
  exact Heap.get?_push_of_some _ (Heap.get?_push_of_some _ e1)
end
/-- a walk's turns while an exception is handled -/
structure TurnE (P : Program) (w : World) (K : PySem.W.Frag) (tg : Expr) (J : It) (fp : List Addr) (it : Addr) (tn : Nat → Heap → Prop) : Prop where
  mem : it ∈ fp
  obj : ∀ i h, tn i h → ∀ b ∈ fp, ∃ o, h.get? b = some o ∧ ∀ v, o.data ≠ .cell v
  keep : ∀ i h h', tn i h → (∀ b ∈ fp, ∀ o, h.get? b = some o → h'.get? b = some o) → tn i h'
  item : ∀ (X : Cx), X.prog = P → X.w = w → X.K = K → ∀ (i : Nat) (pins : List (Addr × Obj)) (s : Shared) (σ : L2.St) (H : Hp) (E : Value → Shared → Prop), Inv X pins σ H s → (∀ b ∈ fp, FpOk X pins H b) → tn i s.heap → J.go i H →
    wpAny (model P w) X.A (pyNext (.ref it)) (fun r s1 => ∃ u, r = some u ∧
      wpAny (model P w) X.A (letOwnedTupleGo tg (.ref it) u) (fun _ s2 => ∃ x H', Inv X pins σ H' s2 ∧ RelV x u ∧ J.yld i H x H' ∧ tn (i + 1) s2.heap ∧ ∀ b ∈ fp, H' b = none) E s1) E s
  done : ∀ (X : Cx), X.prog = P → X.w = w → X.K = K → ∀ (x1 : Addr) (i : Nat) (pins : List (Addr × Obj)) (s : Shared) (σ : L2.St) (H : Hp) (E : Value → Shared → Prop), Inv X pins σ H s → (∀ b ∈ fp, FpOk X pins H b) → tn i s.heap → J.stop i H → HotAt X.A x1 s.heap → x1 ∉ fp →
    wpAny (model P w) X.A (pyNext (.ref it)) (fun r s1 => r = none ∧ Inv X pins σ H s1) E s
  self : ∀ (A : Around) (i : Nat) (s : Shared) (Q : Value → Shared → Prop) (E : Value → Shared → Prop), tn i s.heap → Q (.ref it) s → wpAny (model P w) A (pyIter (.ref it)) Q E s
theorem turn_listE {P : Program} {w : World} {K : PySem.W.Frag} {tg : Expr} (a it : Addr) : TurnE P w K tg (Itl K a) [it] it (fun i h => h.IsListIter it a i) where
  mem := by simp
  obj := fun i h st b hb => by
    have e : b = it := by simpa using hb
    subst e
    obtain ⟨o, e, c, d⟩ := st
    exact ⟨o, e, fun v z => by rw [d] at z; cases z⟩
  keep := fun i h h' st k => st.at fun o e => k it (by simp) o e
  item := by
    intro X hP hw hK i pins s σ H E I hf st hg
    subst hP hw hK
    obtain ⟨xs, x, hq, hx⟩ := hg
    obtain ⟨its, rv, p, hz⟩ := I.list hq
    obtain ⟨u, hu, ru⟩ := rv.get hx
    obtain ⟨f0, f1, f2, f3, f4, f5⟩ := hf it (by simp)
    refine wpAny_pyNext_list_item st p.isList (x := u) (by simpa using hu) fun h' st' sb => ?_
    have I1 : Inv X pins σ H { s with heap := h' } := I.turned (t' := s.toks) (fun b o hb e => (sb.2 b hb).trans e) f0 f1 f3 f4 f5
    obtain ⟨o, e, c, d⟩ := id st'
    exact ⟨u, rfl, go_of (s := { s with heap := h' }) e c d (by decide) ⟨x, H, I1, ru, ⟨rfl, fun ys hy => by rw [I.list_inj hy hq]; exact hx⟩, st', fun b hb => (hf b hb).1⟩⟩
  done := by
    intro X hP hw hK x1 i pins s σ H E I hf st hg hot hx1
    subst hP hw hK
    obtain ⟨xs, hq, hx⟩ := hg
    obtain ⟨its, rv, p, hz⟩ := I.list hq
    obtain ⟨f0, f1, f2, f3, f4, f5⟩ := hf it (by simp)
    have hl := rv.length
    exact pyNext_list_end_hot hot (fun z => hx1 (by simp [z])) st p.isList (by simp; omega) fun h' eb => ⟨rfl, I.turned (t' := s.toks) (fun b o hb e => eb b o hb e) f0 f1 f3 f4 f5⟩
  self := fun _ _ _ _ _ st h => wpAny_pyIter_listiter st h
def PIEE (X : Cx) (pins : List (Addr × Obj)) (σ : L2.St) (tg : Expr) (R : It → Hp → Prop) (itv : Value) (s2 : Shared) : Prop :=
  ∃ (it : Addr) (fp : List Addr) (tn : Nat → Heap → Prop) (J : It) (H' : Hp), itv = .ref it ∧ Inv X pins σ H' s2 ∧ TurnE X.prog X.w X.K tg J fp it tn ∧ tn 0 s2.heap ∧ (∀ b ∈ fp, FpOk X pins H' b) ∧ R J H'
structure PIE' (X : Cx) (tg iter : Expr) (wi : TI) : Prop where
  run : ∀ (pins : List (Addr × Obj)) (s : Shared) (σ : L2.St) (H : Hp) (R : It → Hp → Prop), Inv X pins σ H s → wi σ H R →
    wpAny (model X.prog X.w) X.A (eval iter X.env) (fun v s1 => wpAny (model X.prog X.w) X.A (pyIter v) (PIEE X pins σ tg R) X.xe s1) X.xe s
theorem pie_list {X : Cx} {tg l : Expr} {tl : TE} (hl : PE X l tl) : PIE' X tg l (iList X.K tl) := by
  refine ⟨fun pins s σ H R I h => ?_⟩
  refine thn (hl.run pins s σ H _ I h) fun v s1 ⟨x, H1, I1, r1, q1⟩ => ?_
  obtain ⟨a, e, ⟨xs, hq⟩, q⟩ := q1
  subst e
  cases r1
  obtain ⟨its, rv, p, hz⟩ := I1.list hq
  refine wpAny_pyIter_list p.isList ?_
  refine ⟨s1.heap.objs.size, [s1.heap.objs.size], _, _, H1, rfl, I1.kept (t' := s1.toks) fun b o e => Heap.get?_push_of_some _ e, turn_listE a _, ⟨_, Heap.get?_push_size _ rfl, rfl, rfl⟩, fun b hb => ?_, q⟩
  have e : b = s1.heap.objs.size := by simpa using hb
  subst e
  exact I1.fpOk (Nat.le_refl _) (I1.hok.fresh (Nat.le_refl _))
section
variable {X : Cx}
/-- a target, the handled exception standing -/
structure PGp (p : Addr × Obj) (X : Cx) (target : Expr) (t : TG) : Prop where
  run : ∀ (pins : List (Addr × Obj)) (s : Shared) (σ : L2.St) (H : Hp) (v : V) (u : Value) (Q : L2.St → Hp → Prop), Inv X ([p] ++ pins) σ H s → RelV v u → t v σ H Q →
    wpAny (model X.prog X.w) X.A (assign target X.env u) (fun _ s' => ∃ σ' H', Inv X ([p] ++ pins) σ' H' s' ∧ Q σ' H') X.xe s
theorem pgp_of {p : Addr × Obj} {X : Cx} {tg : Expr} {t : TG} (h : PG X tg t) : PGp p X tg t := ⟨fun pins => h.run ([p] ++ pins)⟩
theorem lc_coreE {p : Addr × Obj} (hot : Hot1 X.A p) (hpn : p ∈ X.pn) {pins : List (Addr × Obj)} {s : Shared} {σ : L2.St} {H : Hp} {Q : VK} {elt tg iter : Expr} {ifs : List Expr} {scope : Scope} {own : List (Str × Nat)} {pos pos' : Pos} {wi : TI} {g : TG} {tt : TT} {te : TE} {use : Option (Value → Sem Unit)} {Qf : Value → Shared → Prop}
    (hN : X.N.Nodup) (I : Inv X pins σ H s) (hi : PIE' X tg iter wi) (ok : BlkOk X.N X.env.scope scope own)
    (hg : ∀ (s : Shared) (H : Hp) (C : Addr) (cl : List (Str × Addr)) (fp : List Addr), PGp p (X.blk s H scope (compEnvC scope cl C X.env) fp) tg g) (ht : ∀ (s : Shared) (H : Hp) (C : Addr) (cl : List (Str × Addr)) (fp : List Addr), PTs (X.blk s H scope (compEnvC scope cl C X.env) fp) ifs tt)
    (he : ∀ (s : Shared) (H : Hp) (C : Addr) (cl : List (Str × Addr)) (fp : List Addr), PE (X.blk s H scope (compEnvC scope cl C X.env) fp) elt te) (hs : ∀ x, foldedSetIterable iter X.env x = pure x)
    (h : tLc wi g tt te (own.map (·.2)) σ H Q)
    (hRR : ∀ D C s' m H', Inv X pins σ H' s' → Q (.ref D) H' → s'.heap.Ns C m → FpOk X pins H' C → compPost (model X.prog X.w) X.A X.xe use Qf (.ref D) C (.ok .next) s') :
    wpAny (model X.prog X.w) X.A (comprehension (.ListComp elt [⟨tg, iter, ifs, 0⟩] scope pos) scope X.env pos' (newList []) false (eval iter X.env) use) Qf X.xe s := by
  have hfree : ∀ y ∈ scope.names, y.2 = .free → ∃ c, X.env.cells.lookup y.1 = some c := fun y hy e => by
    rcases ok.free y hy e with k | k
    · exact I.ok.has _ (.inl k)
    · exact I.ok.has _ (.inr k)
  refine wpAny_comprehension_free (use := use) rfl hs (closure_ok hfree) ok.kind (fun y hy e => by rw [ok.uniq y hy, e])
    (thn (hi.run pins s σ H _ I h) fun xv s1 hx => thn hx fun itv s2 h2 => ?_)
  obtain ⟨it, fp, tn, J, H2, e, I2, T, st2, f2, q⟩ := h2
  subst e
  refine wpAny_newObj_type (newEnv_comp ?_) (by show 0 ≤ sizeLine; decide)
  generalize hD : s2.heap.objs.size = D
  have hDn : H2 D = none := I2.hok.fresh (Nat.le_of_eq hD)
  obtain ⟨W, ⟨m0, w0⟩, turn⟩ := q D hDn
  -- the new list
  generalize hs3 : ({ s2 with heap := s2.heap.push { cls := .type "list", data := .seq ([] : List Value).toArray } } : Shared) = s3
  have I3 : Inv X pins σ (upd H2 D (.lst [])) s3 := by
    rw [← hs3]
    refine I2.laid (t' := s2.toks) (fun b o e => Heap.get?_push_of_some _ e) (Nat.le_of_eq hD) ⟨Nat.zero_le _, [], 0, .nil, ?_⟩
    rw [← hD]
    exact Heap.get?_push_size _ rfl
  have h3 : s3.heap = s2.heap.push { cls := .type "list", data := .seq ([] : List Value).toArray } := by rw [← hs3]
  have sz : ∀ b ∈ fp, b < s2.heap.objs.size := fun b hb => by
    obtain ⟨o, e, _⟩ := T.obj _ _ st2 b hb
    exact Heap.lt_size e
  have f3 : ∀ b ∈ fp, FpOk X pins (upd H2 D (.lst [])) b ∧ b < s3.heap.objs.size := fun b hb => by
    have hlt := sz b hb
    refine ⟨⟨?_, (f2 b hb).2⟩, by rw [h3, Heap.size_push]; exact Nat.lt_succ_of_lt hlt⟩
    rw [upd_ne (by rw [← hD]; exact Nat.ne_of_lt hlt)]
    exact (f2 b hb).1
  have pfp : p.1 ∉ fp := fun z => (f2 p.1 z).2.2.2.2.2 p (List.mem_append_left _ hpn) rfl
  have P3 := I3.pin p (List.mem_append_left _ hpn)
  have st3 : tn 0 s3.heap := T.keep _ _ _ st2 fun b _ o e => by rw [h3]; exact Heap.get?_push_of_some _ e
  have I4 := block_start I3 ok hN f3
  have pg := hg s3 (upd H2 D (.lst [])) s3.heap.objs.size (cellsFrom (s3.heap.objs.size + 1) scope.names (cloFrom X.env.cells scope.names [])) fp
  have pt := ht s3 (upd H2 D (.lst [])) s3.heap.objs.size (cellsFrom (s3.heap.objs.size + 1) scope.names (cloFrom X.env.cells scope.names [])) fp
  have pe := he s3 (upd H2 D (.lst [])) s3.heap.objs.size (cellsFrom (s3.heap.objs.size + 1) scope.names (cloFrom X.env.cells scope.names [])) fp
  show codeAny _ _ (.compStart (.ListComp elt [⟨tg, iter, ifs, 0⟩] scope pos) 0 (.ref it) (.ref D) (compEnvC scope (cellsFrom (s3.heap.objs.size + 1) scope.names (cloFrom X.env.cells scope.names [])) s3.heap.objs.size X.env)) (compPost (model X.prog X.w) X.A X.xe use Qf (.ref D) s3.heap.objs.size) { s3 with heap := pushCells (s3.heap.push { cls := .type "dict", data := .dict #[] }) scope.names }
  have nfp : ∀ b ∈ fp, (upd H2 D (.lst [])) b = none := fun b hb => (f3 b hb).1.1
  generalize hce : compEnvC scope (cellsFrom (s3.heap.objs.size + 1) scope.names (cloFrom X.env.cells scope.names [])) s3.heap.objs.size X.env = ce at I4 pg pt pe ⊢
  have cL : ce.locals = s3.heap.objs.size := by subst hce; rfl
  generalize hH3 : upd H2 D (.lst []) = H3 at I3 I4 pg pt pe w0 nfp f3 P3
  generalize hs4 : ({ s3 with heap := pushCells (s3.heap.push { cls := .type "dict", data := .dict #[] }) scope.names } : Shared) = s4 at I4 ⊢
  have k34 : ∀ b o, s3.heap.get? b = some o → s4.heap.get? b = some o := fun b o e => by rw [← hs4]; exact pushCells_keeps _ _ _ _ (Heap.get?_push_of_some _ e)
  have st4 : tn 0 s4.heap := T.keep _ _ _ st3 fun b _ o e => k34 b o e
  have pfs : p.1 ∉ (X.blk s3 H3 scope ce fp).fs := fun hm => by
    have hm : p.1 ∈ frs X.stack := hm
    rcases List.mem_cons.mp (I3.stkSub p.1 hm) with z | z
    · exact P3.2.2.1 z
    · exact P3.2.2.2.1 z
  have pL : p.1 ≠ ce.locals := by rw [cL]; exact Nat.ne_of_lt (Heap.lt_size P3.1)
  have I4 : Inv (X.blk s3 H3 scope ce fp) [p] (wipe σ (own.map (·.2))) H3 s4 := I4.pins_of fun q hq => by
    have eq : q = p := by simpa using hq
    rw [eq]
    exact ⟨k34 _ _ P3.1, P3.2.1, pL, pfs, P3.2.2.2.2⟩
  have stat : ∀ {σ' : L2.St} {H' : Hp} {s' : Shared}, Inv (X.blk s3 H3 scope ce fp) [p] σ' H' s' → (∀ b ∈ fp, H' b = none) → ∀ b ∈ fp, FpOk (X.blk s3 H3 scope ce fp) [p] H' b := fun {σ' H' s'} I' hn b hb =>
    ⟨hn b hb, (I'.ok.exf b hb).1, I'.ok.exfs b hb, .inl hb, fun x c e => (I'.ok.exf b hb).2 x c e, fun q hq => by
      have eq : q = p := by simpa using (show q ∈ ([] : List (Addr × Obj)) ++ [p] from hq)
      rw [eq]; exact fun z => pfp (by rw [z]; exact hb)⟩
  have loop : codeAny (model X.prog X.w) X.A (.compLoop (.ListComp elt [⟨tg, iter, ifs, 0⟩] scope pos) 0 (.ref it) (.ref D) ce) (compPost (model X.prog X.w) X.A X.xe use Qf (.ref D) s3.heap.objs.size) s4 := by
    refine compLoop_any (fun n s' => ∃ i H', Inv (X.blk s3 H3 scope ce fp) [p] (wipe σ (own.map (·.2))) H' s' ∧ tn i s'.heap ∧ (∀ b ∈ fp, H' b = none) ∧ W i n H') ?_ m0 ⟨0, H3, I4, st4, nfp, w0⟩
    rintro n s5 ⟨i, H5, I5, st5, n5, w5⟩
    rcases turn i n H5 w5 with ⟨stop, qq⟩ | ⟨go, Nx, hNx, step⟩
    · have hotA : HotAt (X.blk s3 H3 scope ce fp).A p.1 s5.heap := by
        obtain ⟨hh, v1, e1, c1⟩ := hot
        exact ⟨hh, p.2, v1, (I5.pin p (by simp)).1, e1, c1⟩
      have td := T.done (X.blk s3 H3 scope ce fp) rfl rfl rfl p.1 i [p] s5 _ H5 (fun _ _ => False) I5 (stat I5 n5) st5 stop hotA pfp
      refine thnF td fun r s6 ⟨hr, I6⟩ => ?_
      subst hr
      -- back in the def's context
      have I7 : Inv X pins σ H5 s6 := I3.call' (ch := fp) I6.os I6.base I6.hok I6.bare fun b hb => ⟨(f3 b hb).1.2.2.2.1, (f3 b hb).1.2.1, (f3 b hb).1.2.2.2.2.1, (f3 b hb).1.2.2.2.2.2⟩
      have nC : H5 s3.heap.objs.size = none := by
        have z : H5 ce.locals = none := I6.free
        rw [cL] at z
        exact z
      obtain ⟨m, hn, _⟩ := I6.loc
      have hn : s6.heap.Ns ce.locals m := hn
      rw [cL] at hn
      exact hRR D s3.heap.objs.size s6 m H5 I7 qq hn (I3.fpOk (Nat.le_refl _) nC)
    · have ti := T.item (X.blk s3 H3 scope ce fp) rfl rfl rfl i [p] s5 _ H5 (fun _ _ => False) I5 (stat I5 n5) st5 go
      refine thnF ti fun r s6 ⟨u, hr, h6⟩ => ?_
      subst hr
      refine thnF h6 fun _ s7 ⟨x, H7, I7, r7, y7, st7, n7⟩ => ?_
      have I7' := I7.pinned (stat I7 n7) (T.obj _ _ st7)
      refine thnF (pg.run _ s7 _ H7 x u _ I7' r7 (step x H7 y7)) fun _ s8 ⟨σ8, H8, I8, hw8, q8⟩ => ?_
      refine thnF (pt.run _ s8 σ8 H8 _ I8 q8) fun b s9 ⟨H9, I9, q9⟩ => ?_
      -- the turn's end
      have fin : ∀ {s' : Shared} {H' : Hp}, Inv (X.blk s3 H3 scope ce fp) ([p] ++ pinsAt fp s7.heap) σ8 H' s' → Nx H' → ∃ m, m < n ∧ ∃ i H', Inv (X.blk s3 H3 scope ce fp) [p] (wipe σ (own.map (·.2))) H' s' ∧ tn i s'.heap ∧ (∀ b ∈ fp, H' b = none) ∧ W i m H' := fun {s' H'} I' nx => by
        obtain ⟨m', hm, w'⟩ := hNx H' nx
        have pin' : ∀ b ∈ fp, ∀ o, s7.heap.get? b = some o → s'.heap.get? b = some o ∧ H' b = none := fun b hb o e =>
          let z := I'.pin (b, o) (List.mem_append_right _ (List.mem_append_right _ (mem_pinsAt hb e)))
          ⟨z.1, z.2.1⟩
        have hl : (wipe σ (own.map (·.2))).length = σ8.length := by rw [← hw8, wipe_length]
        refine ⟨m', hm, i + 1, H', (I'.unpinned (pins := [p])).weak hl (fun j v e => ?_), T.keep _ _ _ st7 fun b hb o e => (pin' b hb o e).1, fun b hb => ?_, w'⟩
        · rw [← hw8] at e
          exact (wipe_some e).1
        · obtain ⟨o, e, _⟩ := T.obj _ _ st7 b hb
          exact (pin' b hb o e).2
      cases b with
      | false =>
        simp only [Bool.false_eq_true, if_false] at q9 ⊢
        exact fin I9 q9
      | true =>
        simp only [if_true] at q9 ⊢
        refine thnF (pe.run _ s9 σ8 H9 _ I9 q9) fun z s10 ⟨yv, H10, I10, r10, acc, hD10, hz10, nx⟩ => ?_
        exact app_ok (X := X.blk s3 H3 scope ce fp) I10 hD10 hz10 r10 fun s11 I11 => fin I11 nx
  exact codeAny_compStart_list loop (T.self X.A 0 _ _ _ st4 loop)
/-- as a value -/
theorem pe_lcE {p : Addr × Obj} (hot : Hot1 X.A p) (hpn : p ∈ X.pn) {elt tg iter : Expr} {ifs : List Expr} {scope : Scope} {own : List (Str × Nat)} {pos : Pos} {wi : TI} {g : TG} {tt : TT} {te : TE} (hN : X.N.Nodup) (hi : PIE' X tg iter wi) (ok : BlkOk X.N X.env.scope scope own)
    (hg : ∀ (s : Shared) (H : Hp) (C : Addr) (cl : List (Str × Addr)) (fp : List Addr), PG (X.blk s H scope (compEnvC scope cl C X.env) fp) tg g) (ht : ∀ (s : Shared) (H : Hp) (C : Addr) (cl : List (Str × Addr)) (fp : List Addr), PTs (X.blk s H scope (compEnvC scope cl C X.env) fp) ifs tt)
    (he : ∀ (s : Shared) (H : Hp) (C : Addr) (cl : List (Str × Addr)) (fp : List Addr), PE (X.blk s H scope (compEnvC scope cl C X.env) fp) elt te) (hs : ∀ x, foldedSetIterable iter X.env x = pure x := by intro _; rfl) :
    PE X (.ListComp elt [⟨tg, iter, ifs, 0⟩] scope pos) (tLc wi g tt te (own.map (·.2))) := by
  refine ⟨fun pins s σ H Q I h => ?_⟩
  rw [eval_ListComp]
  refine lc_coreE hot hpn hN I hi ok (fun s H C cl fp => pgp_of (hg s H C cl fp)) ht he hs h fun D C s' m H' I' q hn f => ⟨m, hn, fun h'' sb => ?_⟩
  obtain ⟨f0, f1, f2, f3, f4, f5⟩ := f
  exact ⟨.ref D, H', I'.turned (t' := s'.toks) (fun b o hb e => (sb.2 b hb).trans e) f0 f1 f3 f4 f5, rfl, q⟩
end
end VL

set_option maxHeartbeats 2000000
/-! exceptions: raise, calls of defs that raise, try -/
namespace VL
open PySem PySem.Spec PyProof.Rows L2 HotX L2H
/-- an exception class of the text -/
structure ExT (K : PySem.W.Frag) (mg : Str → Option Value) (n : Str) where
  C : Addr
  g : mg n = some (.ref C)
  x : PySem.W.excIn K C [.type "ValueError", .type "Exception", .type "BaseException", .type "object"] "ValueError.__new__" = true
  k : PySem.W.keepIn K (.ref C) = true
  b : PySem.W.subIn K (.ref C) (.type "BaseException") = some true
  t : PySem.W.typeIn K (.ref C) = some (.type "type")
  e : ExcC K C
/-- wishes by names as the kit's wishes -/
def wx (mg : Str → Option Value) (W : Wish) : WX := fun cls d σ H => d = none ∧ ∃ n C, mg n = some (.ref C) ∧ cls = .ref C ∧ W n σ H
def xw (mg : Str → Option Value) (E : XK) (n : Str) (H : Hp) : Prop := ∀ C, mg n = some (.ref C) → E (.ref C) none H
abbrev TkV (X : Cx) (W : Wish) : Prop := L2N.Takes X (wx X.mg W)
section
variable {X : Cx} {W : Wish}
def sRaise (n : Str) : FS := fun ρ st => .ok (.ex n, ρ, st)
theorem vs_raise {n m : Str} {p p2 p3 pos : Pos} {j : Nat} (hc : X.calm = true) (tk : TkV X W) (T : ExT X.K X.mg n) (hg : Gl X n) (hdb : (n == ("__debug__" : Str)) = false := by decide) :
    VS X W (.Raise (some (.Call (.Name n p) [.Constant (.str m) j p2] [] p3)) none pos) (sRaise n) :=
  ⟨_, L2N.ps_raise hc tk (L2N.pmk_own PySem.F.excBase_ValueError T.x T.g T.k (raises_own T.b T.t) hg hdb), fun ρ st σ g D rel k => ⟨rfl, n, T.C, T.g, rfl, k σ g (Ext.refl g) rel⟩⟩
/-- a call of a def that may raise -/
def vDefX (n : Nat) (m : FM) (fa : FA) : FE := fun ρ st => fa ρ st >>= fun a => if a.1.length = n then m a.1 a.2 else .bad
theorem ve_defX {k n : Nat} {f : Addr} {fd : FuncData} {ps : List Str} {m : FM} {fa : FA} {x : Str} {p pos : Pos} {e : Expr} {es : List Expr} (tk : TkV X W) (F : FnOk X.prog X.w X.K X.mg X.base (L2N.CX X.prog X.w) k f fd ps (spV X.K (xw X.mg) n m)) (hr : Room k X.A) (hg : Gl X x) (hm : X.mg x = some (.ref f)) (hk : PySem.W.keepIn X.K (.ref f) = true) (hb : Binds X.K fd ps [])
    (ha : VA X W (e :: es) fa) (hdb : (x == ("__debug__" : Str)) = false := by decide) (he : starEach (e :: es) X.env = (false, eval e X.env) :: starEach es X.env := by rfl) (hpl : (backTo pos (starEach es X.env)).any (·.1) = false := by rfl) :
    VE X W (.Call (.Name x p) (e :: es) [] pos) (vDefX n m fa) := by
  obtain ⟨t, pa, run⟩ := ha.run
  refine ⟨_, pe_callS F hr hg hm hk hb (fun σ => L2N.passAt tk σ) pa hdb he hpl, fun ρ st σ g Q rel k => ?_⟩
  refine run ρ st σ g _ (okE X.K ρ σ Q) _ okE.goes rel k fun ds st1 vs g1 e1 r1 h1 k1 => ?_
  simp only at k1
  split at k1
  · rename_i hn
    refine ⟨h1.1.trans hn, ds, st1, g1, rfl, r1.wd, h1, ?_⟩
    cases em : m ds st1 with
    | bad => rw [em] at k1; exact k1.elim
    | exc n s =>
      rw [em] at k1
      exact fun g' e' w' C hC => ⟨rfl, n, C, hC, rfl, k1 g' e' ⟨w', r1.sl.ext e'⟩⟩
    | ok a =>
      rw [em] at k1
      exact fun v g' e' w' hv => k1 v g' e' ⟨w', r1.sl.ext e'⟩ hv
  · exact k1.elim
end
section
variable {K : PySem.W.Frag}
/-- a def that may raise -/
theorem fn_okX {P : Program} {w : World} {mg : Str → Option Value} {base : Heap} {x qual : Str} {sd : Stmt} {fa : Addr} {fd : FuncData} {N ps : List Str} {k : Nat} {f : FS} {lv : Nat → Vd → Store → R (Vd × Store)} (F : Fun K x qual sd fa fd) (S : FnScope N ps (defScope sd)) (L : Leaves lv)
    (h : ∀ (cdv : Value) (A : Around) (outer : List Env) (s : Shared) (H : Hp) (E : XK), fd.code = cdv → Room k (A.deeper (envOfC qual (defScope sd) s.heap.objs.size fa cdv)) →
      TkV (cxOf (L2N.CX P w) P w K mg base N qual (defScope sd) fa cdv A outer s H E) (fun n _ H => xw mg E n H) →
      PassesOwn (model P w) (cxOf (L2N.CX P w) P w K mg base N qual (defScope sd) fa cdv A outer s H E).A (cxOf (L2N.CX P w) P w K mg base N qual (defScope sd) fa cdv A outer s H E).env (cxOf (L2N.CX P w) P w K mg base N qual (defScope sd) fa cdv A outer s H E).xe →
      VSs (cxOf (L2N.CX P w) P w K mg base N qual (defScope sd) fa cdv A outer s H E) (fun n _ H => xw mg E n H) (defBody sd) f) :
    FnOk P w K mg base (L2N.CX P w) (k + 1) fa fd ps (spV K (xw mg) ps.length (entry N.length ps.length lv f)) := by
  obtain ⟨oc, od, kV, doc, pm, an, cdv, ct, osl, rfl, lk, hcd⟩ := F.ex
  refine fn_of lk hcd S (fun vs H Q E hh => hh.1) fun A outer s H vs Q E hr hh => ?_
  obtain ⟨hl, ds, st, g, rfl, w1, hv, kk⟩ := hh
  refine body_run (X := cxOf (L2N.CX P w) P w K mg base N qual (defScope sd) fa cdv A outer s g.H E) (W := fun n H => xw mg E n H) L (h cdv A outer s g.H E rfl hr ?_ ?_) w1 hv kk
  · refine L2N.Takes.imp (L2N.takes_of (E := E) rfl rfl rfl rfl) fun c d σ H hw => ?_
    obtain ⟨rfl, n, C, hC, rfl, hw⟩ := hw
    exact hw C hC
  · exact PassesOwn.leaving
end
/-! ### the handled exception -/
/-- isinstance(e, C), e the handled exception -/
theorem call_isP {X : Cx} {p : Addr × Obj} {D : Addr} (C : ExcC X.K D) (hp : p ∈ X.pn) (hz : Zc (.ref D) none p.2) (hf : ∃ vs, p.2.data = .fields vs) : CallR X (.builtin "isinstance") (rIsE X.K D p.1) := by
  intro pins s σ H xs us Q I r h
  obtain ⟨c, cv, b, rfl, hcv, e, q⟩ := h
  cases r with
  | cons rx rr =>
    cases rr with
    | cons rt rr =>
      cases rr
      cases rx
      have ec := hcv _ rt
      subst ec
      obtain ⟨hget, _⟩ := I.pin p (List.mem_append.mpr (.inl hp))
      obtain ⟨vs, hv⟩ := hf
      have J : PySem.W.InstAt s.heap p.1 p.2 D none := by
        obtain ⟨a, oe⟩ := p
        obtain ⟨oc, od, oda, osl⟩ := oe
        obtain ⟨h1, h2⟩ := hz
        dsimp only at h1 h2 hv
        subst h1 h2 hv
        exact ⟨hget, rfl, rfl, trivial⟩
      exact PySem.W.kia_one (PySem.W.handS_kitx_exc C.hg C.hk C.hs C.hd C.ha C.hn C.ht C.hm) I.kIn J e (fun z => nomatch z) fun tk => ⟨.bl b, H, I.kept (t' := tk) fun _ _ z => z, rfl, q⟩
/-- a def that is called while an exception is handled; sp's letters: the exception's address, class, dict -/
structure FnE (P : Program) (w : World) (K : PySem.W.Frag) (mg : Str → Option Value) (base : Heap) (k : Nat) (f : Addr) (fd : FuncData) (ps : List Str) (sp : Addr → Value → Option Addr → Sp) : Prop where
  len : ∀ a c d vs H Q E, sp a c d vs H Q E → vs.length = ps.length
  run : ∀ (A : Around) (outer : List Env) (s : Shared) (H : Hp) (args : Args) (us : List Value) (vs : List V) (Q : VK) (E : XK) (p : Addr × Obj) (c : Value) (d : Option Addr), RoomH k A → Hot1 A p → L2N.Zn c d p.2 → PinOk outer H s p → Env0 P w K mg base A outer s H → BindsTo s fd args (ps.zip us) → Vals vs us → sp p.1 c d vs H Q E →
    codeAny (model P w) A (.call (.ref f) args) (CR CX0 outer P w H s Q E) s
theorem fnE_of {P : Program} {w : World} {K : PySem.W.Frag} {mg : Str → Option Value} {base : Heap} {k : Nat} {x qual : Str} {sd : Stmt} {f : Addr} {fd : FuncData}
    {N ps : List Str} {sp : Addr → Value → Option Addr → Sp} (F : Fun K x qual sd f fd) (S : FnScope N ps (defScope sd))
    (len : ∀ a c d vs H Q E, sp a c d vs H Q E → vs.length = ps.length)
    (hbody : ∀ (cdv : Value) (A : Around) (outer : List Env) (s : Shared) (H : Hp) (vs : List V) (Q : VK) (E : XK) (p : Addr × Obj) (c : Value) (d : Option Addr), fd.code = cdv → Hot1 A p → L2N.Zn c d p.2 → RoomH k (A.deeper (envOfC qual (defScope sd) s.heap.objs.size f cdv)) → sp p.1 c d vs H Q E →
      ∃ t, PSs (cxH CX0 P w K mg base N qual (defScope sd) f cdv A outer s H E p).nox (defBody sd) t ∧ t { nx := fun _ H' => Q .non H', rt := Q } (L2.start N vs) H) :
    FnE P w K mg base (k + 1) f fd ps sp := by
  obtain ⟨oc, od, kV, doc, pm, an, cdv, ct, osl, rfl, lk, hcd⟩ := F.ex
  refine ⟨len, fun A outer s H args us vs Q E p c d hr hot hz hpin e0 hb r hsp => ?_⟩
  have hl := len _ _ _ _ _ _ _ hsp
  have KX : K.In s.heap := e0.mod.kin.keeps fun b o e => (e0.bs b o e).1
  have lim : s.heap.NoLimit := e0.mod.nolimit.keeps fun b o e => (e0.bs b o e).1
  have hkind : ∀ y ∈ ps.zip us, (defScope sd).names.lookup y.1 = some .local ∨ ((defScope sd).names.lookup y.1 = some .cell ∧ ((cellsFrom (s.heap.objs.size + 1) (defScope sd).names []).lookup y.1).isSome = true) := fun ⟨n, v⟩ hy => by
    rcases S.par n (List.of_mem_zip hy).1 with q | q
    · exact .inl q
    · exact .inr ⟨q, PySem.W.cellsFrom_some _ _ _ (.inl q)⟩
  refine codeAny_call_function hr.depth (KX _ _ lk) rfl S.co S.gen rfl (PySem.W.codeRec_of KX hcd) (hb _ _ _ _ ?_)
  refine wpAny_newFunctionEnv_cells S.kind hkind fun env he s1 x => ?_
  subst he
  refine ⟨lim.keeps x.toInCall.keep, codeAny_func ?_⟩
  obtain ⟨t, ht, hq⟩ := hbody cdv A outer s H vs Q E p c d rfl hot hz (hr.deeper _) hsp
  have ht := ht.nox
  have I : Inv (cxH CX0 P w K mg base N qual (defScope sd) f cdv A outer s H E p) [] (L2.start N vs) H s1 := inv_startH S hpin e0 hl r x
  refine wpAny_mono (ht.run [] s1 (L2.start N vs) H _ I hq) (fun fl s' hs => ?_) fun e s' hs => hs
  have fin : ∀ {σ' : L2.St} {H' : Hp} {v : V} {u : Value}, Inv (cxH CX0 P w K mg base N qual (defScope sd) f cdv A outer s H E p) [] σ' H' s' → RelV v u → Q v H' → CE outer P w H s Q u s' :=
    fun {σ' H' v u} J rv q => ⟨v, H', J.os, J.bare, J.base, J.hok, rv, q⟩
  cases fl with
  | ret u =>
    obtain ⟨v, σ', H', J, rv, q⟩ := hs
    exact fin J rv q
  | next =>
    obtain ⟨σ', H', J, q⟩ := hs
    exact fin (v := V.non) (u := Value.none) J rfl q
  | brk =>
    obtain ⟨_, _, _, q⟩ := hs
    exact False.elim q
  | cont =>
    obtain ⟨_, _, _, q⟩ := hs
    exact False.elim q
section
variable {X : Cx}
theorem pe_callE {k : Nat} {f : Addr} {fd : FuncData} {ps : List Str} {sp : Addr → Value → Option Addr → Sp} {x : Str} {q pos : Pos} {e : Expr} {es : List Expr} {t : TA} {p : Addr × Obj} {c : Value} {d : Option Addr}
    (F : FnE X.prog X.w X.K X.mg X.base k f fd ps sp) (hr : RoomH k X.A) (hot : Hot1 X.A p) (hp : p ∈ X.pn) (hz : L2N.Zn c d p.2) (hg : Gl X x) (hm : X.mg x = some (.ref f)) (hk : PySem.W.keepIn X.K (.ref f) = true) (hb : Binds X.K fd ps [])
    (ha : PA X (e :: es) t) (hdb : (x == ("__debug__" : Str)) = false := by decide) (he : starEach (e :: es) X.env = (false, eval e X.env) :: starEach es X.env := by rfl) (hpl : (backTo pos (starEach es X.env)).any (·.1) = false := by rfl) :
    PE X (.Call (.Name x q) (e :: es) [] pos) (tCallS (sp p.1 c d) (fun _ => E0) t) := by
  refine ⟨fun pins s σ H Q I h => ?_⟩
  refine wpAny_Call_Name_kw (ld_glob I hg hm ?_ hdb)
  refine PySem.W.callWith_K (h₀ := X.base) I.ok.mod.kin hk (thn (ha.run pos pins s σ H _ I h) fun us s1 ⟨vs, H1, I1, r, q⟩ => ⟨I1.kIn, ?_⟩) he hpl
  have hl : us.length = ps.length := by rw [← r.length]; exact F.len _ _ _ _ _ _ _ q
  have b := hb s1 us I1.kIn (by rw [List.append_nil]; exact hl)
  rw [List.append_nil] at b
  have P1 := I1.pin p (List.mem_append_left _ hp)
  have hpin : PinOk X.stack H1 s1 p := ⟨P1.1, P1.2.1, fun hm => (List.mem_cons.mp (I1.stkSub p.1 hm)).elim P1.2.2.1 P1.2.2.2.1, P1.2.2.2.2⟩
  refine wpAny_call (codeAny_mono (F.run X.A X.stack s1 H1 ⟨us, []⟩ us vs Q E0 p c d hr hot hz hpin I1.env0 b r q) fun r s' hq => ?_)
  cases r with
  | error e => exact hq.elim
  | ok fl =>
    cases fl with
    | ret u => exact I1.after hq
    | next => exact False.elim hq
    | brk => exact False.elim hq
    | cont => exact False.elim hq
end
end VL

set_option maxHeartbeats 2000000
/-! try .. except C as e: return .. -/
namespace VL
open PySem PySem.Spec PyProof.Rows L2 HotX L2H
/-- i: the slot of the exception's name; wd: what the suite returns, by the class -/
def sTry (i : Nat) (f : FS) (wd : Str → Option PyData) : FS := fun ρ st => f ρ st >>= fun a => match a.1 with
  | .ex n => (match wd n with
    | some w => if i < a.2.1.length then .ok (.rt (.p w), a.2) else .bad
    | none => .bad)
  | o => .ok (o, a.2)
section
variable {X : Cx} {W : Wish}
theorem takesN0 {X : Cx} : L2N.Takes X (fun _ _ _ _ => False) := fun _ _ x => by
  obtain ⟨_, _, _, _, _, _, _, _, _, _, _, _, _, _, _, _, z⟩ := x
  exact z.elim
theorem vs_try {x n : Str} {c : Value} {i : Nat} {body suite : List Stmt} {b₀ : Stmt} {np pos pos' : Pos} {f : FS} {wd : Str → Option PyData} {ts : Addr → Value → Option Addr → TS}
    (hs : X.stack = X.env :: X.outer) (hf : X.env.frame = some X.env.locals) (hN : X.N.Nodup) (hi : X.N[i]? = some n) (hln : X.env.kindOf n = some .local) (hc : Names X x c)
    (hb : ∀ (V : Wish) (pn : List (Addr × Obj)) (xe : Value → Shared → Prop), TkV (X.tr pn xe) V → PassesOwn (model X.prog X.w) X.A X.env xe → VSs (X.tr pn xe) V body f)
    (hsu : ∀ (a : Addr) (oe : Obj) (cls : Value) (d : Option Addr) (pn : List (Addr × Obj)), L2N.Zn cls d oe → (∃ vs, oe.data = .fields vs) → PSs (X.suite a ((a, oe) :: pn)) (b₀ :: suite) (ts a cls d))
    (hval : ∀ m w, wd m = some w → ∀ C, X.mg m = some (.ref C) → PySem.W.exmOne X.K (.ref C) c = some true ∧
      ∀ (a : Addr) (σ : L2.St) (st : Store) (g : Gh) (D : Ends), σ[i]? = some (some (.ref a)) → g.H a = none → Wd X.K st g → okM X.K D.rt g (.p w, st) → ts a (.ref C) none D σ g.H) :
    VS X W (.Try body [.ExceptHandler (some (.Name x np)) (some n) (b₀ :: suite) pos'] [] [] pos) (sTry i f wd) := by
  refine ⟨_, L2N.ps_try_as (Wout := fun _ _ _ _ => False) (i := i) (c := c) (ts := ts) (tb := fun W' D σ H => ∃ ρ st g, g.H = H ∧ Rel X.K ρ st σ g ∧ KS X.K (fun n σ H => ∀ C, X.mg n = some (.ref C) → W' (.ref C) none σ H) D g (f ρ st)) hs hf hN hi hln hc takesN0 (fun W' pn xe tk own => ?_) hsu, fun ρ st σ g D rel k => ?_⟩
  · obtain ⟨t, pt, run⟩ := hb (fun n σ H => ∀ C, X.mg n = some (.ref C) → W' (.ref C) none σ H) pn xe (L2N.Takes.imp tk fun c d σ H hw => by
      obtain ⟨rfl, n, C, hC, rfl, hw⟩ := hw
      exact hw C hC) own
    exact ⟨fun pins s σ H D I h => pt.run pins s σ H D I (by
      obtain ⟨ρ, st, g, rfl, rel, k⟩ := h
      exact run ρ st σ g D rel k)⟩
  · refine ⟨ρ, st, g, rfl, rel, ?_⟩
    have k : KS X.K W D g (sTry i f wd ρ st) := k
    unfold sTry at k
    cases hfr : f ρ st with
    | bad => rw [hfr] at k; exact k.elim
    | exc n s => rw [hfr] at k; exact k.elim
    | ok a =>
      rw [hfr] at k
      obtain ⟨o, ρ', st'⟩ := a
      cases o with
      | nx => exact k
      | rt d => exact k
      | bk => exact k
      | ct => exact k
      | ex m =>
        have k : KS X.K W D g (match wd m with
          | some w => if i < ρ'.length then .ok (.rt (.p w), ρ', st') else .bad
          | none => .bad) := k
        cases hw : wd m with
        | none => rw [hw] at k; exact k.elim
        | some w =>
          rw [hw] at k
          simp only at k
          split at k
          · rename_i hil
            intro σ' g' e r C hC
            obtain ⟨hx, hv⟩ := hval m w hw C hC
            refine ⟨true, hx, fun _ a ha => ?_, fun z => nomatch z⟩
            refine hv a _ st' g' _ ?_ ha r.wd fun v g2 e2 w2 hv2 => k v σ' g2 (e.trans e2) ⟨w2, r.sl.ext e2⟩ hv2
            rw [List.getElem?_set, if_pos rfl, if_pos (by rw [r.sl.1]; exact hil)]
          · exact k.elim
end
/-! ### the law's word for an exception -/
def spW (K : PySem.W.Frag) (mg : Str → Option Value) (wd : Str → Option PyData) (a : Addr) (cls : Value) (d : Option Addr) : Sp := fun vs H Q _ =>
  vs = [.ref a] ∧ d = none ∧ ∃ st g n C w, g.H = H ∧ Wd K st g ∧ cls = .ref C ∧ mg n = some (.ref C) ∧ wd n = some w ∧ okM K Q g (.p w, st)
theorem vs_tryW {X : Cx} {W : Wish} {x n wn : Str} {c : Value} {i k : Nat} {body : List Stmt} {np q1 q2 q3 q4 pos pos' : Pos} {f : FS} {wd : Str → Option PyData} {fw : Addr} {fdw : FuncData} {psw : List Str}
    (hs : X.stack = X.env :: X.outer) (hf : X.env.frame = some X.env.locals) (hN : X.N.Nodup) (hi : X.N[i]? = some n) (hln : X.env.kindOf n = some .local) (hc : Names X x c)
    (F : FnE X.prog X.w X.K X.mg X.base k fw fdw psw (spW X.K X.mg wd)) (hr : Room k X.A) (hg : Gl X wn) (hm : X.mg wn = some (.ref fw)) (hk : PySem.W.keepIn X.K (.ref fw) = true) (hbw : Binds X.K fdw psw [])
    (hb : ∀ (V : Wish) (pn : List (Addr × Obj)) (xe : Value → Shared → Prop), TkV (X.tr pn xe) V → PassesOwn (model X.prog X.w) X.A X.env xe → VSs (X.tr pn xe) V body f)
    (hx : ∀ m w, wd m = some w → ∀ C, X.mg m = some (.ref C) → PySem.W.exmOne X.K (.ref C) c = some true)
    (hd : (n == ("__debug__" : Str)) = false := by decide) (hcd : (n == ("__classdict__" : Str)) = false := by decide) (hdb : (wn == ("__debug__" : Str)) = false := by decide)
    (he : starEach [.Name n q2] X.env = (false, eval (.Name n q2) X.env) :: starEach [] X.env := by rfl) (hpl : (backTo q3 (starEach [] X.env)).any (·.1) = false := by rfl) :
    VS X W (.Try body [.ExceptHandler (some (.Name x np)) (some n) [.Return (some (.Call (.Name wn q1) [.Name n q2] [] q3)) q4] pos'] [] [] pos) (sTry i f wd) := by
  refine vs_try (ts := fun a cls d => tRet (tCallS (spW X.K X.mg wd a cls d) (fun _ => E0) (tCons (tVar i) tNil))) hs hf hN hi hln hc hb (fun a oe cls d pn hz hfd => ?_) fun m w hw C hC => ⟨hx m w hw C hC, fun a σ st g D hσ ha w' ok => ?_⟩
  · refine pss_one (ps_ret (pe_callE (X := X.suite a ((a, oe) :: pn)) (p := (a, oe)) F ⟨hr.dp, hr.un⟩ ⟨rfl, ?_⟩ List.mem_cons_self hz hg hm hk hbw (pa_cons (pe_var hi (.inl hln) hd hcd) pa_nil) hdb he hpl))
    obtain ⟨vs, e⟩ := hfd
    exact ⟨vs, e, hz.2.2 vs e⟩
  · exact ⟨.ref a, hσ, rfl, rfl, st, g, m, C, w, rfl, w', rfl, hC, hw, ok⟩
/-- [isinstance(e, C), ..] -/
def tKinds (K : PySem.W.Frag) (C a : Addr) (Ms : List Addr) : TA := Ms.foldr (fun M r => tCons (tCB (rIsE K C a) (tCons (tVar 0) (tCons (tC (.ref M)) tNil))) r) tNil
theorem tKinds_run {K : PySem.W.Frag} {C a : Addr} {σ : L2.St} {H : Hp} (hσ : σ[0]? = some (some (.ref a))) : ∀ (Ms : List Addr) (bs : List Bool) (Q : List V → Hp → Prop), (Ms.map fun M => PySem.W.kitOne K (.ref C) (.ref M)) = bs.map some → Q (bs.map .bl) H → tKinds K C a Ms σ H Q
  | [], bs, Q, hk, hq => by
    cases bs with
    | nil => exact hq
    | cons b bs => cases hk
  | M :: Ms, bs, Q, hk, hq => by
    cases bs with
    | nil => cases hk
    | cons b bs =>
      simp only [List.map_cons, List.cons.injEq] at hk
      refine ⟨.ref a, hσ, .ref M, .ref M, b, rfl, fun u hu => hu, hk.1, ?_⟩
      exact tKinds_run hσ Ms bs _ hk.2 hq
theorem hasL_bools {K : PySem.W.Frag} {F : Hp} : ∀ bs : List Bool, HasL K F (bs.map .bool) (bs.map .bl)
  | [] => .nil
  | b :: bs => .cons (.bl b) (hasL_bools bs)
theorem word_fn {P : Program} {w : World} {K : PySem.W.Frag} {mg : Str → Option Value} {base : Heap} {k : Nat} {x qual : Str} {sd : Stmt} {fa : Addr} {fd : FuncData} {N : List Str} {n0 : Str} {wd : Str → Option PyData} {s0 : Stmt} {tail : List Stmt} {Ms : List Addr} {fl : Str → List Bool} {f : FS}
    (F : Fun K x qual sd fa fd) (S : FnScope N [n0] (defScope sd)) (hbd : defBody sd = s0 :: tail) (hl : ∀ n, (fl n).length ≤ 100)
    (hT : ∀ n w, wd n = some w → ∃ T : ExT K mg n, (Ms.map fun M => PySem.W.kitOne K (.ref T.C) (.ref M)) = (fl n).map some)
    (hf : ∀ n w, wd n = some w → ∀ st : Store, ∃ ρ' st2, f (((some (.p .none) : Option Vd) :: List.replicate (N.length - 1) none).set 0 none |>.set 1 (some (.loc st.length))) (st ++ [.lst ((fl n).map .bool)]) = .ok (.rt (.p w), ρ', st2) ∧ st2.take st.length = st)
    (h0 : ∀ (cdv : Value) (A : Around) (outer : List Env) (s : Shared) (H : Hp) (E : XK) (p : Addr × Obj) (C : Addr), fd.code = cdv → ExcC K C → Zc (.ref C) none p.2 → (∃ vs, p.2.data = .fields vs) →
      PS (cxH CX0 P w K mg base N qual (defScope sd) fa cdv A outer s H E p).nox s0 (tAsg (tLst (tKinds K C p.1 Ms)) (gName 1)))
    (h1 : ∀ (cdv : Value) (A : Around) (outer : List Env) (s : Shared) (H : Hp) (E : XK) (p : Addr × Obj), fd.code = cdv → Hot1 A p → RoomH k (A.deeper (envOfC qual (defScope sd) s.heap.objs.size fa cdv)) →
      VSs (cxH CX0 P w K mg base N qual (defScope sd) fa cdv A outer s H E p).nox noW tail f) :
    FnE P w K mg base (k + 1) fa fd [n0] (spW K mg wd) := by
  refine fnE_of F S (fun a c d vs H Q E h => by rw [h.1]; rfl) fun cdv A outer s H vs Q E p c d hcd hot hz hr hsp => ?_
  obtain ⟨rfl, rfl, st, g, n, C, r, rfl, w0, rfl, hC, hw, ok⟩ := hsp
  obtain ⟨T, hk⟩ := hT n r hw
  have eC : C = T.C := by
    have := hC.symm.trans T.g
    exact Value.ref.inj (Option.some.inj this)
  subst eC
  have hfd : ∃ vs, p.2.data = .fields vs := let ⟨_, vs, e, _⟩ := hot; ⟨vs, e⟩
  obtain ⟨t1, p1, run1⟩ := h1 cdv A outer s g.H E p hcd hot hr
  refine ⟨_, hbd ▸ pss_cons (h0 cdv A outer s g.H E p T.C hcd T.e hz.zc hfd) p1, ?_⟩
  have hN1 : 1 ≤ N.length := by have := congrArg List.length S.pre; simp at this; omega
  refine tKinds_run ?_ Ms (fl n) _ hk ⟨by rw [List.length_map]; have := hl n; rw [sizeLine_eq]; omega, ?_⟩
  · unfold L2.start; rfl
  have key : RE K noW (fun σ H Q => ∀ D0, H D0 = none → Q (.ref D0) (upd H D0 (.lst ((fl n).map .bl)))) (vOwn (fun ρ st => .ok (.lst ((fl n).map .bool), st))) :=
    RN.own fun ρ st σ g Q rel k q hq => okN_new (X := cxH CX0 P w K mg base N qual (defScope sd) fa cdv A outer s g.H E p) rel k hq ⟨_, rfl, hasL_bools _⟩
  refine key (((some (.p .none) : Option Vd) :: List.replicate (N.length - 1) none).set 0 none) st (L2.start N [.ref p.1]) g (fun x H1 => t1 { nx := fun _ H' => Q .non H', rt := Q } ((L2.start N [.ref p.1]).set 1 (some x)) H1) ⟨w0, ?_⟩ ?_
  · unfold L2.start
    refine ⟨by simp, fun i d hi => ?_⟩
    cases i with
    | zero => simp at hi
    | succ i =>
      simp [List.getElem?_replicate] at hi
  · intro v g' e r' hv
    obtain ⟨ρ', st2, hfr, ht⟩ := hf n r hw st
    refine run1 _ _ _ g' _ ⟨r'.wd, r'.sl.set hv 1⟩ ?_
    show KS K noW _ g' (f _ _)
    rw [hfr]
    intro v2 σ' g2 e2 r2 hv2
    refine leaves_F (W := fun _ _ => False) (e.trans e2) w0 r2 hv2 ?_
    show KR _ _ (R.ok (Vd.p r, st2.take st.length))
    rw [ht]
    exact ok
end VL

set_option maxHeartbeats 2000000
/-! the laws' word for an exception -/
namespace VL
open PySem PySem.Spec PyProof.Rows L2 HotX L2H
section
variable {X : Cx} {W : Wish}
def VIE (X : Cx) (W : Wish) (tg iter : Expr) (fi : FI) : Prop := ∃ wi, PIE' X tg iter wi ∧ ∀ ρ st σ g P, Rel X.K ρ st σ g → KR (WN X.K W ρ σ g) (okI X.K ρ σ P g) (fi ρ st) → wi σ g.H P
/-- an owned list -/
def iOwnL (f : FE) : FI := fun ρ st => f ρ st >>= fun a => match a.1 with
  | .loc k => (match a.2[k]? with
    | some (.lst ds) => .ok (⟨ds, some k⟩, a.2)
    | _ => .bad)
  | _ => .bad
theorem vie_own {tg l : Expr} {f : FE} (h : VE X W l f) : VIE X W tg l (iOwnL f) := by
  obtain ⟨t, pe, run⟩ := h.run
  refine ⟨_, pie_list pe, fun ρ st σ g P rel k => ?_⟩
  refine run ρ st σ g _ (okI X.K ρ σ P) _ okI.goes rel k fun d1 st1 v1 g1 e1 r1 h1 k1 => ?_
  cases d1 with
  | p d => exact k1.elim
  | loc j =>
    obtain ⟨a, ha, rfl⟩ := h1
    simp only at k1
    cases ej : st1[j]? with
    | none => simp only [ej] at k1; exact k1.elim
    | some ob =>
      have own := r1.wd.own j a ob ha ej
      cases ob with
      | lst ds =>
        simp only [ej] at k1
        obtain ⟨_, xs, hx, l⟩ := own
        refine ⟨a, rfl, ⟨xs, .inl (.inl hx)⟩, k1 _ g1 (Ext.refl g1) r1 (show st1[j]? = _ from ej) (walk_lst fun st g e w o => ?_)⟩
        obtain ⟨B, hB, _⟩ := e.new
        have hj : g.A[j]? = some a := by rw [hB, List.getElem?_append_left (List.getElem?_eq_some_iff.mp ha).1]; exact ha
        obtain ⟨_, ys, hy, l2⟩ := w.own j a _ hj (show st[j]? = some (.lst ds) from o)
        exact ⟨ys, .inl (.inl hy), l2⟩
      | fz d => simp only [ej] at k1; exact k1.elim
      | dct t ds => simp only [ej] at k1; exact k1.elim
theorem vn_lcE {p : Addr × Obj} (hot : Hot1 X.A p) (hpn : p ∈ X.pn) {elt tg iter : Expr} {ifs : List Expr} {scope : Scope} {own : List (Str × Nat)} {pos : Pos} {fi : FI} {gt : FG} {tt : FT} {fe : FE} {ws vs : List Nat} (hN : X.N.Nodup) (hi : VIE X W tg iter fi) (ok : BlkOk X.N X.env.scope scope own)
    (hg : ∀ (s : Shared) (H : Hp) (C : Addr) (cl : List (Str × Addr)) (fp : List Addr), VG (X.blk s H scope (compEnvC scope cl C X.env) fp) ws tg gt) (ht : ∀ (s : Shared) (H : Hp) (C : Addr) (cl : List (Str × Addr)) (fp : List Addr), VTs (X.blk s H scope (compEnvC scope cl C X.env) fp) noW ifs tt)
    (he : ∀ (s : Shared) (H : Hp) (C : Addr) (cl : List (Str × Addr)) (fp : List Addr), VE (X.blk s H scope (compEnvC scope cl C X.env) fp) noW elt fe) (hws : ∀ j ∈ ws, j ∈ vs := by decide) (hvs : own.map (·.2) = vs := by rfl) (hs : ∀ x, foldedSetIterable iter X.env x = pure x := by intro _; rfl) :
    VN X W (.ListComp elt [⟨tg, iter, ifs, 0⟩] scope pos) (nLc fi gt tt fe vs) := by
  subst hvs
  obtain ⟨wi, pi, runI⟩ := hi
  exact ⟨_, pe_lcE hot hpn hN pi ok (fun s H C cl fp => (hg s H C cl fp).pg) (tt := ttOf X.K noW tt) (fun s H C cl fp => ht s H C cl fp) (fun s H C cl fp => (he s H C cl fp).pe) hs, lc_read hws runI⟩
end
/-- kinds that a law asks, in this order -/
def five : List Str := ["OutOfRange", "Malformed", "NotThere", "Refused", "TooMuch"]
def wordAll (n : Str) : Option PyData := if n = ("OutOfRange" : Str) then some (.str "range") else if n = ("Malformed" : Str) then some (.str "form") else if n = ("NotThere" : Str) then some (.str "none") else if n = ("Refused" : Str) then some (.str "refused") else if n = ("TooMuch" : Str) then some (.str "much") else none
def wdOf (l : List Str) (n : Str) : Option PyData := if n ∈ l then wordAll n else none
def flAll (n : Str) : List Bool := five.map fun m => decide (m = n)
/-- behind kinds = [..] -/
noncomputable def tailW : FS := sSeq (sIf (asB (vBin (eqP true) (vCall (one lenP) (aCons (vFz (nLc (iOwnL (vVar 1)) (gSet 2) (vTru (vVar 2)) (vVar 2) [2])) aNil)) (vC (.int 1)))) (sRet (vC (.str ("many" : Str)))) sNil)
  (sRet (vBinD ixD (vFz (nLst (aCons (vC (.str ("range" : Str))) (aCons (vC (.str ("form" : Str))) (aCons (vC (.str ("none" : Str))) (aCons (vC (.str ("refused" : Str))) (aCons (vC (.str ("much" : Str))) aNil))))))) (vMth isLstV mIndex (vVar 1) (aCons (vC (.bool true)) aNil))))
theorem sel_bools {k : Nat} {ds : List PyData} {st : Store} (h : st[k]? = some (.lst ds)) : ∀ bs : List Bool,
    lcG ⟨ds, some k⟩ (gSet 2) (vTru (vVar 2)) (vVar 2) [none, some (.loc k), none] (bs.map .bool) st = .ok ((bs.filter id).map .bool, st)
  | [] => by
    have ok : (Src.mk ds (some k)).Ok st := h
    simp [lcG, ok]
  | b :: bs => by
    have ok : (Src.mk ds (some k)).Ok st := h
    have ih := sel_bools h bs
    cases b <;> simp [lcG, ok, gSet, ih]
noncomputable def tailF (F : FE) : FS := sSeq (sIf (asB (vBin (eqP true) (vCall (one lenP) (aCons F aNil)) (vC (.int 1)))) (sRet (vC (.str ("many" : Str)))) sNil)
  (sRet (vBinD ixD (vFz (nLst (aCons (vC (.str ("range" : Str))) (aCons (vC (.str ("form" : Str))) (aCons (vC (.str ("none" : Str))) (aCons (vC (.str ("refused" : Str))) (aCons (vC (.str ("much" : Str))) aNil))))))) (vMth isLstV mIndex (vVar 1) (aCons (vC (.bool true)) aNil))))
theorem tailF_run {F : FE} {st st1 : Store} {w : PyData} {l ls : List PyData} {j : Nat} (hst : st1[st.length]? = some (.lst l)) (hF : F [none, some (.loc st.length), none] st1 = .ok (.p (.list ls), st1)) (h1 : ls.length = 1)
    (hs : SeqAt.shaped (.list l) = true) (hj : idxOf l (.bool true) = some j) (hx : atI [.str ("range" : Str), .str ("form" : Str), .str ("none" : Str), .str ("refused" : Str), .str ("much" : Str)] (j : Int) = some w) :
    tailF F [none, some (.loc st.length), none] st1 = .ok (.rt (.p w), [none, some (.loc st.length), none], st1) := by
  have hb : SeqAt.shaped (.bool true) = true := by decide
  have hp : peek st1 (.loc st.length) = .ok (.list l) := by simp [peek, hst]
  have hi : isLstV st1 (.loc st.length) = true := by simp [isLstV, hp]
  have hm : mIndex st1 (.loc st.length) [.p (.bool true)] = .ok (.p (.int j), st1) := by
    simp [mIndex, hp, hs, hb, hj]
  simp [tailF, hF, lenP, h1, hi, hm, hx]
theorem tailW_ok {n : Str} {w : PyData} (h : wordAll n = some w) (st : Store) : ∃ ρ' st2, tailW [none, some (.loc st.length), none] (st ++ [.lst ((flAll n).map .bool)]) = .ok (.rt (.p w), ρ', st2) ∧ st2.take st.length = st := by
  have go : ∀ (bs : List Bool) (j : Nat), flAll n = bs → (bs.filter id).length = 1 → SeqAt.shaped (.list (bs.map .bool)) = true → idxOf (bs.map .bool) (.bool true) = some j →
      atI [.str ("range" : Str), .str ("form" : Str), .str ("none" : Str), .str ("refused" : Str), .str ("much" : Str)] (j : Int) = some w →
      ∃ ρ' st2, tailW [none, some (.loc st.length), none] (st ++ [.lst ((flAll n).map .bool)]) = .ok (.rt (.p w), ρ', st2) ∧ st2.take st.length = st := by
    intro bs j e h1 hs hj hx
    rw [e]
    have hst : (st ++ [Ob.lst (bs.map .bool)])[st.length]? = some (.lst (bs.map .bool)) := by simp
    have lc : nLc (iOwnL (vVar 1)) (gSet 2) (vTru (vVar 2)) (vVar 2) [2] [none, some (.loc st.length), none] (st ++ [.lst (bs.map .bool)]) = .ok (.lst ((bs.filter id).map .bool), st ++ [.lst (bs.map .bool)]) := by
      have := sel_bools hst bs
      simp [nLc, iOwnL, hst, wipeV, this, h1]
    exact ⟨_, _, tailF_run (F := vFz (nLc (iOwnL (vVar 1)) (gSet 2) (vTru (vVar 2)) (vVar 2) [2])) hst (ev_fzL lc) (by simp [h1]) hs hj hx, by simp⟩
  unfold wordAll at h
  split at h
  · rename_i e; subst e; cases h
    exact go [true, false, false, false, false] 0 (by decide) rfl (by decide) (by decide) (by rfl)
  split at h
  · rename_i e; subst e; cases h
    exact go [false, true, false, false, false] 1 (by decide) rfl (by decide) (by decide) (by rfl)
  split at h
  · rename_i e; subst e; cases h
    exact go [false, false, true, false, false] 2 (by decide) rfl (by decide) (by decide) (by rfl)
  split at h
  · rename_i e; subst e; cases h
    exact go [false, false, false, true, false] 3 (by decide) rfl (by decide) (by decide) (by rfl)
  split at h
  · rename_i e; subst e; cases h
    exact go [false, false, false, false, true] 4 (by decide) rfl (by decide) (by decide) (by rfl)
  · cases h
theorem wdOf_all {l : List Str} {n : Str} {w : PyData} (h : wdOf l n = some w) : wordAll n = some w := by
  unfold wdOf at h
  split at h
  · exact h
  · cases h
theorem wdOf_mem {l : List Str} {n : Str} {w : PyData} (h : wdOf l n = some w) : n ∈ l := by
  unfold wdOf at h
  split at h
  · assumption
  · cases h
/-- all that is known of an exception class of the text -/
structure ExI (K : PySem.W.Frag) (n : Str) (C : Addr) : Prop where
  ha : PySem.W.nsIn K mainGlobals n = some (some (.ref C))
  x : PySem.W.excIn K C [.type "ValueError", .type "Exception", .type "BaseException", .type "object"] "ValueError.__new__" = true
  k : PySem.W.keepIn K (.ref C) = true
  b : PySem.W.subIn K (.ref C) (.type "BaseException") = some true
  t : PySem.W.typeIn K (.ref C) = some (.type "type")
  e : ExcC K C
theorem ExI.of {K : PySem.W.Frag} {n : Str} {C : Addr} (ha : PySem.W.nsIn K mainGlobals n = some (some (.ref C))) (x : PySem.W.excIn K C [.type "ValueError", .type "Exception", .type "BaseException", .type "object"] "ValueError.__new__" = true)
    (k : PySem.W.keepIn K (.ref C) = true) (b : PySem.W.subIn K (.ref C) (.type "BaseException") = some true) (t : PySem.W.typeIn K (.ref C) = some (.type "type"))
    (e1 : PySem.W.findIn K (.ref C) "__getattribute__" = some (some (.builtin "BaseException.__getattribute__"))) (e2 : PySem.W.findIn K (.ref C) "__getattr__" = some none)
    (e3 : PySem.W.hasDictIn K C = true) (e4 : PySem.W.findIn K (.ref C) "__class__" = some (some (.builtin "object.__class__")))
    (e5 : PySem.W.specialIn K (.builtin "object.__class__") "__get__" = some (some (.builtin "getset_descriptor.__get__"))) (e6 : PySem.W.takesIn K (.builtin "object.__class__") = some true) (e7 : PySem.W.mroIn K C (.type "object") = some true) : ExI K n C :=
  ⟨ha, x, k, b, t, ⟨e1, e2, b, e3, e4, e5, e6, e7⟩⟩
@[reducible] def ExI.at {K : PySem.W.Frag} {mg : Str → Option Value} {h : Heap} {n : Str} {C : Addr} (X : K.In h) (G : h.Ns mainGlobals mg) (D : ExI K n C) : ExT K mg n := ⟨C, PySem.W.mg_of X G D.ha, D.x, D.k, D.b, D.t, D.e⟩
theorem ExI.exm {K : PySem.W.Frag} {m : Str} {C B0 : Addr} (B : ExI K m B0) (h : PySem.W.subIn K (.ref C) (.ref B0) = some true) : PySem.W.exmOne K (.ref C) (.ref B0) = some true := PySem.W.exm_ref B.b B.e.hd B.t h
end VL

/-! a call of a def that may raise, where it does not -/
namespace VL
open PySem PySem.Spec PyProof.Rows L2
/-- the meaning without its exceptions -/
def dropX (m : FM) : FM := fun ds st => match m ds st with
  | .ok a => .ok a
  | _ => .bad
theorem dropX_ok {m : FM} {ds : List Vd} {st : Store} {a : Vd × Store} (h : m ds st = .ok a) : dropX m ds st = .ok a := by
  unfold dropX; rw [h]
theorem fn_nox {P : Program} {w : World} {K : PySem.W.Frag} {mg : Str → Option Value} {base : Heap} {k n : Nat} {f : Addr} {fd : FuncData} {ps : List Str} {VX : XK → Str → Hp → Prop} {m : FM} (F : FnOk P w K mg base (L2N.CX P w) k f fd ps (spV K VX n m)) :
    FnOk P w K mg base CX0 k f fd ps (spV K noX n (dropX m)) := by
  have conv : ∀ {vs : List V} {H : Hp} {Q : VK} {E E' : XK}, spV K noX n (dropX m) vs H Q E → spV K VX n m vs H Q E' := by
    rintro vs H Q E E' ⟨hl, ds, st, g, hg, wd, hv, kk⟩
    refine ⟨hl, ds, st, g, hg, wd, hv, ?_⟩
    unfold dropX at kk
    cases e : m ds st with
    | ok a => rw [e] at kk; exact kk
    | exc x s => rw [e] at kk; exact kk.elim
    | bad => rw [e] at kk; exact kk.elim
  refine ⟨fun vs H Q E hh => F.len vs H Q E (conv hh), fun A outer s H args us vs Q E hr e0 hb hv hh => ?_⟩
  refine codeAny_mono (F.run A outer s H args us vs Q (fun _ _ _ => False) hr e0 hb hv (conv hh)) fun r s' h => ?_
  match r, h with
  | .ok (.ret u), h => exact h
  | .ok (.next), h => exact h
  | .ok (.brk), h => exact h
  | .ok (.cont), h => exact h
  | .error e, h =>
    obtain ⟨a, B, H', cls, d, _, _, _, _, _, _, _, hE⟩ := h
    exact hE
end VL

set_option maxHeartbeats 2000000
/-! while an exception is handled: tuples taken apart -/
namespace VL
open PySem PySem.Spec PyProof.Rows L2 HotX L2H
section
variable {prog : Program} {w : World} {A : Around} {E : Value → Shared → Prop} {s : Shared}
theorem next_tuple_end_hot {it t x1 : Addr} {i : Nat} {items : Array Value} {Q : Option Value → Shared → Prop} (hot : HotAt A x1 s.heap) (hne : x1 ≠ it)
    (hit : IsTupIter s.heap it t i) (ht : IsTup s.heap t items) (hx : items[i]? = none)
    (hQ : ∀ h', Heap.ExtBut it s.heap h' → Q none { s with heap := h' }) : wpAny (model prog w) A (pyNext (.ref it)) Q E s := by
  obtain ⟨o, ho, hc, hd⟩ := id hit
  obtain ⟨ol, hol, _, nl, hdl⟩ := ht
  obtain ⟨hh, o1, vs1, h1, d1, c1⟩ := hot
  unfold pyNext
  refine wpAny_bind (wpAny_attempt (wpAny_callSpecial?_slot (name := Str.ofString "__next__") hit.typeIs slot_tupleiter_next
    (wpAny_call_entry slot_tupleiter_next hit.typeIs entry_tupleiter_next ?_ (args_tupleiter_next _))))
  show wpAny _ _ (field (.ref it) 0 >>= _) _ _ s
  refine wpAny_bind (wpAny_field ho hd (x := .ref t) rfl ?_)
  show wpAny _ _ (if (Value.ref t == Value.none) = true then _ else _) _ _ s
  rw [if_neg (show ¬ ((Value.ref t == Value.none) = true) from Bool.false_ne_true)]
  show wpAny _ _ (field (.ref it) 1 >>= _) _ _ s
  refine wpAny_bind (wpAny_field ho hd (x := .int i 0) rfl ?_)
  show wpAny _ _ (seqItems? (.ref t) >>= _) _ _ s
  refine wpAny_bind (wpAny_seqItems hol hdl ?_)
  simp only [Int.toNat_natCast, hx]
  refine wpAny_bind (wpAny_rule (wpAny_bind (wpAny_setField ho hd (by simp) ?_)))
  show wpAny _ _ (newExc (.type "StopIteration") [] >>= _) _ _ _
  refine wpAny_bind ?_
  simp only [newExc, newTuple]
  refine wpAny_bind (wpAny_newObj_type ?_ (by size_fits))
  refine wpAny_bind (m := firstArgMember _ _) (wpAny_of_eq (a := Value.none) (by first | rfl | (simp only [firstArgMember]; rfl)) ?_)
  refine wpAny_newObj_type ?_ (by size_fits)
  have g1 : ∀ h0 : Heap, h0.get? x1 = some o1 → (h0.update it (Obj.mapFields (·.setIfInBounds 0 Value.none))).get? x1 = some o1 := fun h0 e => by
    rw [Heap.get?_update_other _ _ (Ne.symm hne)]; exact e
  refine raiseNew_hot ⟨hh, o1, vs1, Heap.get?_push_of_some _ (Heap.get?_push_of_some _ (g1 _ h1)), d1, c1⟩ (Nat.ne_of_lt (Heap.lt_size (Heap.get?_push_of_some _ (g1 _ h1)))) (Heap.get?_push_size _ rfl) rfl (by first | (simp; done) | (simp; omega) | (simp only [Array.size_append]; simp; omega)) ?_
  refine wpAny_bind (wpAny_isInstance (T := "StopIteration") (b := true) ⟨_, Heap.get?_update_self _ (Heap.get?_push_size _ rfl) rfl, rfl⟩ isSubtype_stop ?_)
  refine wpAny_pure (hQ _ fun b o hb e => ?_)
  have e1 : (s.heap.update it (Obj.mapFields (·.setIfInBounds 0 Value.none))).get? b = some o := by rw [Heap.get?_update_other _ _ (Ne.symm hb)]; exact e
  rw [Heap.get?_update_other _ _ (Nat.ne_of_gt (Heap.lt_size (Heap.get?_push_of_some _ e1)))]
  exact Heap.get?_push_of_some _ (Heap.get?_push_of_some _ e1)
theorem unpackItems_tuple_hot {t x1 : Addr} {items : Array Value} {Q : List Value → Shared → Prop} (hot : HotAt A x1 s.heap) (ht : IsTup s.heap t items)
    (hQ : ∀ h', Heap.ExtBut s.heap.objs.size s.heap h' → Q items.toList { s with heap := h' }) : wpAny (model prog w) A (unpackItems (.ref t) items.size none) Q E s := by
  have hlt : t ≠ s.heap.objs.size := by obtain ⟨o, ho, _⟩ := ht; exact Nat.ne_of_lt (Heap.lt_size ho)
  obtain ⟨hh, o1, vs1, h1, d1, c1⟩ := hot
  have hx : x1 ≠ s.heap.objs.size := Nat.ne_of_lt (Heap.lt_size h1)
  unfold unpackItems
  refine wpAny_bind ?_
  · unfold notIterableAtAll
    refine wpAny_bind (wpAny_specialOf ht.typeIs slot_tuple_iter.lookup ?_)
    refine wpAny_pure ?_
    simp only [Bool.false_eq_true, if_false]
    refine wpAny_bind (wpAny_holding (iter_tuple ht ?_))
    refine wpAny_bind (wpAny_holding (draw_tuple hlt items.size 0 _ _ ⟨_, Heap.get?_push_size _ rfl, rfl, rfl⟩ (ht.push _) (by omega) fun h₁ hit₁ hs₁ => ?_))
    have hall : List.take items.size (List.drop 0 items.toList) = items.toList := by
      rw [List.drop_zero]; exact List.take_of_length_le (by simp)
    rw [hall]
    rw [if_neg (by simp)]
    have ht₁ : IsTup h₁ t items := (ht.push _).extBut hs₁.extBut hlt
    refine wpAny_bind (wpAny_holding (next_tuple_end_hot (x1 := x1) ⟨hh, o1, vs1, hs₁.extBut x1 o1 hx (Heap.get?_push_of_some _ h1), d1, c1⟩ hx hit₁ ht₁ (by simp) fun h₂ he₂ => ?_))
    simp only [Option.isSome_none, Bool.false_eq_true, if_false]
    refine wpAny_pure (hQ h₂ fun b o hb e => he₂ b o hb (hs₁.extBut b o hb (Heap.get?_push_of_some _ e)))
theorem assign_Tuple_hot {env : Env} {elts : List Expr} {k} {pos : Pos} {t x1 : Addr} {items : Array Value} {Q : Unit → Shared → Prop} (hot : HotAt A x1 s.heap) (ht : IsTup s.heap t items)
    (hn : (assignEach elts env).length = items.size) (hstar : (assignEach elts env).findIdx? (·.1) = none)
    (h : ∀ h', Heap.ExtBut s.heap.objs.size s.heap h' → wpAny (model prog w) A (assignInOrder ((assignEach elts env).map (·.2)) items.toList) Q E { s with heap := h' }) :
    wpAny (model prog w) A (assign (.Tuple elts k pos) env (.ref t)) Q E s := by
  rw [assign_Tuple]
  refine wpAny_bind (wpAny_standAt ?_)
  unfold unpack
  rw [hn, hstar]
  exact wpAny_bind (wpAny_holding (unpackItems_tuple_hot hot ht h))
end
section
variable {X : Cx} {p : Addr × Obj}
theorem pgp_tup {es : List Expr} {k : Nat} {pos : Pos} {t : TGs} {n : Nat} (hot : Hot1 X.A p) (h : PGs X es t) (hn : (assignEach es X.env).length = n := by rfl) (hst : (assignEach es X.env).findIdx? (·.1) = none := by rfl) :
    PGp p X (.Tuple es k pos) (gTup X.K n t) := by
  refine ⟨fun pins s σ H v u Q I r hw => ?_⟩
  obtain ⟨a, xs, e1, hq, hl, hw⟩ := hw
  subst e1
  cases r
  obtain ⟨its, rv, ht, hz⟩ := I.tuple hq
  obtain ⟨hh, vs, e2, c2⟩ := hot
  have hp := (I.pin p (List.mem_append_right _ (List.mem_append_left _ (List.mem_singleton.mpr rfl)))).1
  refine assign_Tuple_hot ⟨hh, p.2, vs, hp, e2, c2⟩ ht (by simp [hn, ← hl, rv.length]) hst fun h' hx => ?_
  have I1 : Inv X ([p] ++ pins) σ H { s with heap := h' } := I.kept (t' := s.toks) fun b o e => hx b o (Nat.ne_of_lt (Heap.lt_size e)) e
  exact h.run ([p] ++ pins) _ σ H xs _ Q I1 (by simpa using rv) hw
/-- in the layer -/
def VGp (p : Addr × Obj) (X : Cx) (vs : List Nat) (tg : Expr) (f : FG) : Prop :=
  ∃ t, PGp p X tg t ∧ ∀ ρ st σ g d v (Q : L2.St → Hp → Prop), Rel X.K ρ st σ g → HasV X.K g d v → KR no (fun ρ' => ∀ σ', But vs σ σ' → Rel X.K ρ' st σ' g → Q σ' g.H) (f d ρ st) → t v σ g.H Q
theorem VGp.pgp {vs : List Nat} {e : Expr} {f : FG} (h : VGp p X vs e f) : PGp p X e (gOf X.K vs f) := by
  obtain ⟨t, pt, run⟩ := h
  exact ⟨fun pins s σ H v u Q I rv ⟨ρ, st, g, d, e, r, hv, k⟩ => pt.run pins s σ H v u Q I rv (e ▸ run ρ st σ g d v Q r hv k)⟩
def gTupE (n : Nat) (f : FGs) : FG := fun d ρ st => peek st d >>= fun x => match x with
  | .tuple ds => if ds.length = n then f (ds.map .p) ρ st else .bad
  | _ => .bad
theorem vgp_tup {es : List Expr} {k : Nat} {f : FGs} {n : Nat} {vs : List Nat} {pos : Pos} (hot : Hot1 X.A p) (h : VGs X vs es f) (hn : (assignEach es X.env).length = n := by rfl) (hst : (assignEach es X.env).findIdx? (·.1) = none := by rfl) : VGp p X vs (.Tuple es k pos) (gTupE n f) := by
  obtain ⟨t, pt, run⟩ := h
  refine ⟨_, pgp_tup hot pt hn hst, fun ρ st σ g d v Q rel hv k => ?_⟩
  obtain ⟨x, px, k2⟩ := peek_bind k
  cases x with
  | tuple ds =>
    simp only at k2
    split at k2
    · rename_i hl
      obtain ⟨a, xs, rfl, s, l⟩ := (pk_of rel.wd hv px).tup rel.wd
      exact ⟨a, xs, rfl, s, l.1.trans hl, run ρ st σ g (ds.map .p) xs Q rel l.vl k2⟩
    · exact k2.elim
  | _ => exact k2.elim
end
end VL

set_option maxHeartbeats 2000000
/-! the laws' other word for an exception: its class's name -/
namespace VL
open PySem PySem.Spec PyProof.Rows L2 HotX L2H
section
variable {X : Cx} {W : Wish}
/-- name = [..] on one line while an exception is handled -/
theorem ps_setLcE {p : Addr × Obj} (hot : Hot1 X.A p) (hpn : p ∈ X.pn) {i : Nat} {y : Str} {py : Pos} {elt tg iter : Expr} {ifs : List Expr} {scope : Scope} {own : List (Str × Nat)} {pos spos : Pos} {wi : TI} {g : TG} {tt : TT} {te : TE} (hN : X.N.Nodup) (hy : X.N[i]? = some y) (hyl : X.env.scope.names.lookup y = some .local)
    (hsw : swapsWith (.ListComp elt [⟨tg, iter, ifs, 0⟩] scope pos) (some (.Name y py)) spos.line X.env = pure true) (hi : PIE' X tg iter wi) (ok : BlkOk X.N X.env.scope scope own)
    (hg : ∀ (s : Shared) (H : Hp) (C : Addr) (cl : List (Str × Addr)) (fp : List Addr), PGp p (X.blk s H scope (compEnvC scope cl C X.env) fp) tg g) (ht : ∀ (s : Shared) (H : Hp) (C : Addr) (cl : List (Str × Addr)) (fp : List Addr), PTs (X.blk s H scope (compEnvC scope cl C X.env) fp) ifs tt)
    (he : ∀ (s : Shared) (H : Hp) (C : Addr) (cl : List (Str × Addr)) (fp : List Addr), PE (X.blk s H scope (compEnvC scope cl C X.env) fp) elt te) (hs : ∀ x, foldedSetIterable iter X.env x = pure x := by intro _; rfl) :
    PS X (.Assign [.Name y py] (.ListComp elt [⟨tg, iter, ifs, 0⟩] scope pos) spos) (tAsg (tLc wi g tt te (own.map (·.2))) (gName i)) := by
  refine ⟨fun pins s σ H D I h => ?_⟩
  rw [exec_Assign_Name_used _ _ _ _ hsw]
  refine wpAny_bind (wpAny_standAt (wpAny_bind ?_))
  show wpAny _ X.A (do let _ ← comprehension (.ListComp elt [⟨tg, iter, ifs, 0⟩] scope pos) scope X.env (firstIterPos [⟨tg, iter, ifs, 0⟩] pos) (newList []) false (eval iter X.env) (some (assign (.Name y py) X.env))) _ _ s
  have h : tLc wi g tt te (own.map (·.2)) σ H (fun x H1 => gName i x σ H1 D.nx) := h
  refine wpAny_bind (thn (lc_coreE (Qf := fun _ s' => SP X pins D .next s') hot hpn hN I hi ok hg ht he hs h fun L C s' m H' I' q hn f => ?_) fun _ s' hq => wpAny_pure (wpAny_pure hq))
  show wpAny _ _ (assign (.Name y py) X.env (.ref L)) _ _ _
  refine wpAny_assign_Name (store_ok2 (v := V.ref L) I' hN hy (.inl hyl) rfl (fun s2 I2 ⟨a, sb, ha⟩ => ?_) (.inr hyl))
  obtain ⟨f0, f1, f2, f3, f4, f5⟩ := f
  have haC : C ≠ a := by
    rcases ha with z | z
    · rw [z]; exact f1
    · exact fun e => f4 y a z e.symm
  refine ⟨m, hn.sameBut sb haC, fun h3 sb3 => ?_⟩
  exact ⟨_, H', I2.turned (t' := s2.toks) (fun b o hb e => (sb3.2 b hb).trans e) f0 f1 f3 f4 f5, q⟩
/-- the walk's half apart -/
theorem setLcE {p : Addr × Obj} (hot : Hot1 X.A p) (hpn : p ∈ X.pn) {i : Nat} {y : Str} {py : Pos} {elt tg iter : Expr} {ifs : List Expr} {scope : Scope} {own : List (Str × Nat)} {pos spos : Pos} {fi : FI} {gt : FG} {tt : FT} {fe : FE} {ws vs : List Nat} (hN : X.N.Nodup) (hy : X.N[i]? = some y) (hyl : X.env.scope.names.lookup y = some .local)
    (hi : VIE X noW tg iter fi) (ok : BlkOk X.N X.env.scope scope own)
    (hg : ∀ (s : Shared) (H : Hp) (C : Addr) (cl : List (Str × Addr)) (fp : List Addr), VGp p (X.blk s H scope (compEnvC scope cl C X.env) fp) ws tg gt) (ht : ∀ (s : Shared) (H : Hp) (C : Addr) (cl : List (Str × Addr)) (fp : List Addr), VTs (X.blk s H scope (compEnvC scope cl C X.env) fp) noW ifs tt)
    (he : ∀ (s : Shared) (H : Hp) (C : Addr) (cl : List (Str × Addr)) (fp : List Addr), VE (X.blk s H scope (compEnvC scope cl C X.env) fp) noW elt fe) (hws : ∀ j ∈ ws, j ∈ vs := by decide) (hvs : own.map (·.2) = vs := by rfl) (hs : ∀ x, foldedSetIterable iter X.env x = pure x := by intro _; rfl)
    (hk : X.env.scope.kind = .function := by rfl) (hl : (py.line == pos.line) = true := by rfl) (ha : (scope.names.any fun (n, k) => n == y && (k == .local || k == .cell)) = false := by decide) :
    ∃ te, PS X (.Assign [.Name y py] (.ListComp elt [⟨tg, iter, ifs, 0⟩] scope pos) spos) (tAsg te (gName i)) ∧ RE X.K noW te (vOwn (nLc fi gt tt fe vs)) := by
  subst hvs
  obtain ⟨wi, pi, runI⟩ := hi
  exact ⟨_, ps_setLcE hot hpn hN hy hyl (sw_true hk hyl hl ha) pi ok (fun s H C cl fp => (hg s H C cl fp).pgp) (tt := ttOf X.K noW tt) (fun s H C cl fp => ht s H C cl fp) (fun s H C cl fp => (he s H C cl fp).pe) hs, RN.own (lc_read hws runI)⟩
end
/-- [("C", isinstance(e, C)), ..] -/
def tKinds2 (K : PySem.W.Frag) (C a : Addr) (Ms : List (Str × Addr)) : TA := Ms.foldr (fun M r => tCons (tTup (tCons (tC (.str M.1)) (tCons (tCB (rIsE K C a) (tCons (tVar 0) (tCons (tC (.ref M.2)) tNil))) tNil))) r) tNil
def kindsD (bs : List (Str × Bool)) : List PyData := bs.map fun q => .tuple [.str q.1, .bool q.2]
theorem tKinds2_run {X : Cx} {C a : Addr} {ρ : Slots} {st : Store} {σ : L2.St} (hσ : σ[0]? = some (some (.ref a))) : ∀ (Ms : List (Str × Addr)) (bs : List (Str × Bool)) (g : Gh) (Q : List V → Hp → Prop), Rel X.K ρ st σ g → Ms.map (·.1) = bs.map (·.1) → (Ms.map fun M => PySem.W.kitOne X.K (.ref C) (.ref M.2)) = bs.map (fun q => some q.2) →
    (∀ g' xs, Ext g g' → Rel X.K ρ st σ g' → HasL X.K g'.F (kindsD bs) xs → Q xs g'.H) → tKinds2 X.K C a Ms σ g.H Q
  | [], bs, g, Q, rel, hn, hk, hq => by
    cases bs with
    | nil => exact hq g [] (Ext.refl g) rel .nil
    | cons b bs => cases hn
  | M :: Ms, bs, g, Q, rel, hn, hk, hq => by
    cases bs with
    | nil => cases hn
    | cons b bs =>
      simp only [List.map_cons, List.cons.injEq] at hn hk
      refine ⟨.ref a, hσ, .ref M.2, .ref M.2, b.2, rfl, fun u hu => hu, hk.1, ?_⟩
      refine ⟨by rw [sizeLine_eq]; show 2 ≤ _; decide, ?_⟩
      have hv : HasL X.K g.F [.str b.1, .bool b.2] [.str M.1, .bl b.2] := by
        rw [hn.1]
        exact .cons (.str _) (.cons (.bl _) .nil)
      intro q hp
      exact tKinds2_run hσ Ms bs (g.fz q (.tup [.str M.1, .bl b.2])) _ (rel.fz hp) hn.2 hk.2 fun g' xs e r' hl => hq g' (.ref q :: xs) ((ext_fz rel.wd hp).trans e) r' (.cons ((has_newT rel.wd hp hv).ext e) hl)
theorem told_fn {P : Program} {w : World} {K : PySem.W.Frag} {mg : Str → Option Value} {base : Heap} {k : Nat} {x qual : Str} {sd : Stmt} {fa : Addr} {fd : FuncData} {N : List Str} {n0 : Str} {wd : Str → Option PyData} {s0 s1 s2 : Stmt} {tail : List Stmt} {Ms : List (Str × Addr)} {M0 : Addr} {fl : Str → List (Str × Bool)} {f1 : FE} {f2 : FT} {f : FS}
    (F : Fun K x qual sd fa fd) (S : FnScope N [n0] (defScope sd)) (hbd : defBody sd = s0 :: s1 :: s2 :: tail) (hl : ∀ n, (fl n).length ≤ 100) (hnm : ∀ n, Ms.map (·.1) = (fl n).map (·.1))
    (hT : ∀ n w, wd n = some w → ∃ T : ExT K mg n, (Ms.map fun M => PySem.W.kitOne K (.ref T.C) (.ref M.2)) = (fl n).map (fun q => some q.2) ∧ PySem.W.kitOne K (.ref T.C) (.ref M0) = some true)
    (hf : ∀ n w, wd n = some w → ∀ st : Store, ∃ d1 st1 ρ' st2, f1 ((((some (.p .none) : Option Vd) :: List.replicate (N.length - 1) none).set 0 none).set 1 (some (.loc st.length))) (st ++ [.lst (kindsD (fl n))]) = .ok (d1, st1) ∧
      f2 (((((some (.p .none) : Option Vd) :: List.replicate (N.length - 1) none).set 0 none).set 1 (some (.loc st.length))).set 2 (some d1)) st1 = .ok (false, st1) ∧
      f (((((some (.p .none) : Option Vd) :: List.replicate (N.length - 1) none).set 0 none).set 1 (some (.loc st.length))).set 2 (some d1)) st1 = .ok (.rt (.p w), ρ', st2) ∧ st2.take st.length = st)
    (h0 : ∀ (cdv : Value) (A : Around) (outer : List Env) (s : Shared) (H : Hp) (E : XK) (p : Addr × Obj) (C : Addr), fd.code = cdv → ExcC K C → Zc (.ref C) none p.2 → (∃ vs, p.2.data = .fields vs) →
      PS (cxH CX0 P w K mg base N qual (defScope sd) fa cdv A outer s H E p).nox s0 (tAsg (tLst (tKinds2 K C p.1 Ms)) (gName 1)))
    (h1 : ∀ (cdv : Value) (A : Around) (outer : List Env) (s : Shared) (H : Hp) (E : XK) (p : Addr × Obj), fd.code = cdv → Hot1 A p → RoomH k (A.deeper (envOfC qual (defScope sd) s.heap.objs.size fa cdv)) →
      ∃ te, PS (cxH CX0 P w K mg base N qual (defScope sd) fa cdv A outer s H E p).nox s1 (tAsg te (gName 2)) ∧ RE K noW te f1)
    (h2 : ∀ (cdv : Value) (A : Around) (outer : List Env) (s : Shared) (H : Hp) (E : XK) (p : Addr × Obj) (C : Addr), fd.code = cdv → ExcC K C → Zc (.ref C) none p.2 → (∃ vs, p.2.data = .fields vs) → RoomH k (A.deeper (envOfC qual (defScope sd) s.heap.objs.size fa cdv)) →
      ∃ ta u, PS (cxH CX0 P w K mg base N qual (defScope sd) fa cdv A outer s H E p).nox s2 (tIfS (tOr ta (L2.tNot (tB (tCB (rIsE K C p.1) (tCons (tVar 0) (tCons (tC (.ref M0)) tNil)))))) u tNext) ∧
        ∀ ρ st σ g Q, Rel K ρ st σ g → KR (WN K noW ρ σ g) (okT K ρ σ Q g) (f2 ρ st) → ta σ g.H Q)
    (h3 : ∀ (cdv : Value) (A : Around) (outer : List Env) (s : Shared) (H : Hp) (E : XK) (p : Addr × Obj), fd.code = cdv → Hot1 A p → RoomH k (A.deeper (envOfC qual (defScope sd) s.heap.objs.size fa cdv)) →
      VSs (cxH CX0 P w K mg base N qual (defScope sd) fa cdv A outer s H E p).nox noW tail f) :
    FnE P w K mg base (k + 1) fa fd [n0] (spW K mg wd) := by
  refine fnE_of F S (fun a c d vs H Q E h => by rw [h.1]; rfl) fun cdv A outer s H vs Q E p c d hcd hot hz hr hsp => ?_
  obtain ⟨rfl, rfl, st, g, n, C, r, rfl, w0, rfl, hC, hw, ok⟩ := hsp
  obtain ⟨T, hk, hk0⟩ := hT n r hw
  have eC : C = T.C := by
    have := hC.symm.trans T.g
    exact Value.ref.inj (Option.some.inj this)
  subst eC
  have hfd : ∃ vs, p.2.data = .fields vs := let ⟨_, vs, e, _⟩ := hot; ⟨vs, e⟩
  obtain ⟨te, p1, run1⟩ := h1 cdv A outer s g.H E p hcd hot hr
  obtain ⟨ta, u, p2, run2⟩ := h2 cdv A outer s g.H E p T.C hcd T.e hz.zc hfd hr
  obtain ⟨t3, p3, run3⟩ := h3 cdv A outer s g.H E p hcd hot hr
  refine ⟨_, hbd ▸ pss_cons (h0 cdv A outer s g.H E p T.C hcd T.e hz.zc hfd) (pss_cons p1 (pss_cons p2 p3)), ?_⟩
  obtain ⟨d1, st1, ρ', st2, e1, e2, e3, ht⟩ := hf n r hw st
  have rel0 : Rel K (((some (.p .none) : Option Vd) :: List.replicate (N.length - 1) none).set 0 none) st (L2.start N [.ref p.1]) g := by
    refine ⟨w0, ?_⟩
    have hN1 : 1 ≤ N.length := by have := congrArg List.length S.pre; simp at this; omega
    unfold L2.start
    refine ⟨by simp, fun i d hi => ?_⟩
    cases i with
    | zero => simp at hi
    | succ i =>
      simp [List.getElem?_replicate] at hi
  have hσ0 : (L2.start N [.ref p.1])[0]? = some (some (.ref p.1)) := by unfold L2.start; rfl
  have run0 : RN K noW (fun σ H Q => σ[0]? = some (some (.ref p.1)) → tLst (tKinds2 K T.C p.1 Ms) σ H Q) (fun ρ st => .ok (.lst (kindsD (fl n)), st)) := fun ρ st σ g Q rel k hσ => by
    refine tKinds2_run (X := cxH CX0 P w K mg base N qual (defScope sd) fa cdv A outer s g.H E p) hσ Ms (fl n) g _ rel (hnm n) hk fun g1 xs ex1 r1 hxs => ?_
    refine ⟨by rw [hxs.1]; unfold kindsD; rw [List.length_map]; have := hl n; rw [sizeLine_eq]; omega, fun D0 hD0 => ?_⟩
    exact okN_new (X := cxH CX0 P w K mg base N qual (defScope sd) fa cdv A outer s g.H E p) r1 (okN.goes _ _ _ ex1 k) hD0 ⟨xs, rfl, hxs⟩
  refine (RN.own run0) (((some (.p .none) : Option Vd) :: List.replicate (N.length - 1) none).set 0 none) st (L2.start N [.ref p.1]) g (fun x H1 => tSeq (tAsg te (gName 2)) (tSeq (tIfS (tOr ta (L2.tNot (tB (tCB (rIsE K T.C p.1) (tCons (tVar 0) (tCons (tC (.ref M0)) tNil)))))) u tNext) t3) { nx := fun _ H' => Q .non H', rt := Q } ((L2.start N [.ref p.1]).set 1 (some x)) H1) rel0 ?_ hσ0
  intro v1 g1 x1 r1 hv1
  refine run1 _ _ _ g1 _ ⟨r1.wd, r1.sl.set hv1 1⟩ ?_
  show KR _ _ (f1 _ _)
  rw [e1]
  intro v2 g2 x2 r2 hv2
  refine run2 _ _ (((L2.start N [.ref p.1]).set 1 (some v1)).set 2 (some v2)) g2 _ ⟨r2.wd, r2.sl.set hv2 2⟩ ?_
  rw [e2]
  intro g3 x3 r3
  have hσ2 : (((L2.start N [.ref p.1]).set 1 (some v1)).set 2 (some v2))[0]? = some (some (.ref p.1)) := by
    rw [List.getElem?_set_ne (by decide), List.getElem?_set_ne (by decide)]; exact hσ0
  show (if false = true then _ else _)
  rw [if_neg Bool.false_ne_true]
  refine ⟨.ref p.1, hσ2, .ref M0, .ref M0, true, rfl, fun u hu => hu, hk0, true, rfl, ?_⟩
  refine run3 _ _ _ g3 _ r3 ?_
  show KS K noW _ g3 (f _ _)
  rw [e3]
  intro v σ' g' e r' hv
  refine leaves_F (W := fun _ _ => False) (((x1.trans x2).trans x3).trans e) w0 r' hv ?_
  show KR _ _ (R.ok (Vd.p r, st2.take st.length))
  rw [ht]
  exact ok
/-- the class's name -/
def wdN (l : List Str) (n : Str) : Option PyData := if n ∈ l ∧ n ∈ five then some (.str n) else none
theorem wdN_mem {l : List Str} {n : Str} {w : PyData} (h : wdN l n = some w) : n ∈ l := by
  unfold wdN at h
  split at h
  · rename_i z; exact z.1
  · cases h
theorem wdN_five {l : List Str} {n : Str} {w : PyData} (h : wdN l n = some w) : n ∈ five ∧ w = .str n := by
  unfold wdN at h
  split at h
  · rename_i z; cases h; exact ⟨z.2, rfl⟩
  · cases h
def flN (n : Str) : List (Str × Bool) := five.map fun m => (m, decide (m = n))
noncomputable def toldF1 : FE := vOwn (nLc (iOwnL (vVar 1)) (gTupE 2 (gsCons (gSet 3) (gsCons (gSet 4) gsNil))) (vTru (vVar 4)) (vVar 3) [3, 4])
noncomputable def toldF2 : FT := asB (vBin (eqP true) (vCall (one lenP) (aCons (vVar 2) aNil)) (vC (.int 1)))
noncomputable def toldF3 : FS := sRet (vBinD ixD (vVar 2) (vC (.int 0)))
theorem sel_kinds {k : Nat} {ds : List PyData} {st : Store} (h : st[k]? = some (.lst ds)) : ∀ bs : List (Str × Bool),
    lcG ⟨ds, some k⟩ (gTupE 2 (gsCons (gSet 3) (gsCons (gSet 4) gsNil))) (vTru (vVar 4)) (vVar 3) [none, some (.loc k), none, none, none] (kindsD bs) st = .ok ((bs.filter (·.2)).map (fun q => .str q.1), st)
  | [] => by
    have ok : (Src.mk ds (some k)).Ok st := h
    simp [lcG, ok, kindsD]
  | b :: bs => by
    have ok : (Src.mk ds (some k)).Ok st := h
    have ih := sel_kinds h bs
    obtain ⟨n, b⟩ := b
    unfold kindsD at ih ⊢
    cases b <;> simp [lcG, ok, gTupE, gsCons, gsNil, gSet, peek, ih]
theorem toldW_ok {l : List Str} {n : Str} {w : PyData} (h : wdN l n = some w) (st : Store) : ∃ d1 st1 ρ' st2, toldF1 ((((some (.p .none) : Option Vd) :: List.replicate (5 - 1) none).set 0 none).set 1 (some (.loc st.length))) (st ++ [.lst (kindsD (flN n))]) = .ok (d1, st1) ∧
      toldF2 (((((some (.p .none) : Option Vd) :: List.replicate (5 - 1) none).set 0 none).set 1 (some (.loc st.length))).set 2 (some d1)) st1 = .ok (false, st1) ∧
      toldF3 (((((some (.p .none) : Option Vd) :: List.replicate (5 - 1) none).set 0 none).set 1 (some (.loc st.length))).set 2 (some d1)) st1 = .ok (.rt (.p w), ρ', st2) ∧ st2.take st.length = st := by
  obtain ⟨hn, rfl⟩ := wdN_five h
  have hflt : ((flN n).filter (·.2)).map (fun q => PyData.str q.1) = [.str n] := by
    unfold flN five at *
    simp only [List.mem_cons, List.not_mem_nil, or_false] at hn
    rcases hn with rfl | rfl | rfl | rfl | rfl <;> rfl
  obtain ⟨st1, h1⟩ : ∃ st1, st1 = st ++ [Ob.lst (kindsD (flN n))] := ⟨_, rfl⟩
  have hst : st1[st.length]? = some (.lst (kindsD (flN n))) := by rw [h1]; simp
  have hl1 : st1.length = st.length + 1 := by rw [h1]; simp
  have lc : nLc (iOwnL (vVar 1)) (gTupE 2 (gsCons (gSet 3) (gsCons (gSet 4) gsNil))) (vTru (vVar 4)) (vVar 3) [3, 4] [none, some (.loc st.length), none, none, none] st1 = .ok (.lst [.str n], st1) := by
    have := sel_kinds hst (flN n)
    rw [hflt] at this
    simp [nLc, iOwnL, hst, wipeV, this]
  have hg : (st1 ++ [Ob.lst [.str n]])[st1.length]? = some (.lst [.str n]) := by simp
  refine ⟨.loc st1.length, st1 ++ [.lst [.str n]], [none, some (.loc st.length), some (.loc st1.length), none, none], st1 ++ [.lst [.str n]], ?_, ?_, ?_, ?_⟩
  · rw [← h1]
    exact ev_own lc
  · have hp : peek (st1 ++ [Ob.lst [.str n]]) (.loc st1.length) = .ok (.list [.str n]) := by simp [peek, hg]
    refine ev_asB (ev_bin (d := .bool false) (ev_call (d := .int 1) (ea_cons (ev_var rfl) ea_nil) (pkL_cons hp pkL_nil) rfl) ev_c rfl rfl ?_)
    rw [eqP_int]; rfl
  · exact es_ret (ev_binD (ev_var rfl) ev_c (ixO hg rfl))
  · rw [h1]; simp
end VL

namespace K52
open PySem PySem.Spec PyProof.Rows L2 VL
def topS (i : Nat) : Stmt := PySem.Challenge.pw_curtaintime_k52_whole_takings_of_nights.main.body.getD i (.Pass ⟨0, 0, 0, 0⟩)
structure Top (K : PySem.W.Frag) (mg : Str → Option Value) where
  D_is_number : DefT K mg (topS 8) "is_number"
  D_are_takings : DefT K mg (topS 13) "are_takings"
  D_brings : DefT K mg (topS 14) "brings"
  D_check : DefT K mg (topS 15) "check"
  D_best_sum : DefT K mg (topS 16) "best_sum"
  D_best_counts : DefT K mg (topS 17) "best_counts"
  D__law_open : DefT K mg (topS 19) "_law_open"
  D__law_mixed : DefT K mg (topS 20) "_law_mixed"
  D__law_draw : DefT K mg (topS 21) "_law_draw"
  D__law_told : DefT K mg (topS 22) "_law_told"
  D__law_int : DefT K mg (topS 23) "_law_int"
  D__law_takings : DefT K mg (topS 24) "_law_takings"
  D__law_counts : DefT K mg (topS 25) "_law_counts"
  D__law_asked : DefT K mg (topS 26) "_law_asked"
  D_law : DefT K mg (topS 27) "law"
  n_abs : mg "abs" = none
  n_all : mg "all" = none
  n_bool : mg "bool" = none
  n_enumerate : mg "enumerate" = none
  n_int : mg "int" = none
  n_isinstance : mg "isinstance" = none
  n_len : mg "len" = none
  n_list : mg "list" = none
  n_min : mg "min" = none
  n_range : mg "range" = none
  n_sorted : mg "sorted" = none
  n_sum : mg "sum" = none
  n_tuple : mg "tuple" = none
  n_zip : mg "zip" = none
  k_MOST_NIGHTS : ∃ t, mg "MOST_NIGHTS" = some (.int 8 t)
  k_MOST_PLAYS : ∃ t, mg "MOST_PLAYS" = some (.int 6 t)
  k_MOST_TAKEN : ∃ t, mg "MOST_TAKEN" = some (.int 1000 t)
  x_OutOfRange : ExT K mg "OutOfRange"
  x_Malformed : ExT K mg "Malformed"
  x_NotThere : ExT K mg "NotThere"
  x_Refused : ExT K mg "Refused"
  x_TooMuch : ExT K mg "TooMuch"
  x_StageError : ExT K mg "StageError"
  kk_OutOfRange_OutOfRange : PySem.W.kitOne K (.ref x_OutOfRange.C) (.ref x_OutOfRange.C) = some true
  kk_OutOfRange_Malformed : PySem.W.kitOne K (.ref x_OutOfRange.C) (.ref x_Malformed.C) = some false
  kk_OutOfRange_NotThere : PySem.W.kitOne K (.ref x_OutOfRange.C) (.ref x_NotThere.C) = some false
  kk_OutOfRange_Refused : PySem.W.kitOne K (.ref x_OutOfRange.C) (.ref x_Refused.C) = some false
  kk_OutOfRange_TooMuch : PySem.W.kitOne K (.ref x_OutOfRange.C) (.ref x_TooMuch.C) = some false
  kk_OutOfRange_StageError : PySem.W.kitOne K (.ref x_OutOfRange.C) (.ref x_StageError.C) = some true
  xm_OutOfRange : PySem.W.exmOne K (.ref x_OutOfRange.C) (.ref x_StageError.C) = some true
theorem sc_is_number : FnScope ["value", "least", "most"] ["value", "least", "most"] (defScope (topS 8)) := ⟨rfl, rfl, rfl, by decide +kernel, rfl, by decide +kernel, by decide +kernel⟩
noncomputable def m_is_number : FM := entry 3 3 leaveF (sRet (vAndV (vUn (isiP "int") (vVar 0)) (vAndV (vNotV (vUn (isiP "bool") (vVar 0))) (vChain leP leP (vVar 1) (vVar 0) (vVar 2)))))

theorem sc_are_takings : FnScope ["value", "row", "one", "k"] ["value"] (defScope (topS 13)) := ⟨rfl, rfl, rfl, by decide +kernel, rfl, by decide +kernel, by decide +kernel⟩
@[reducible] noncomputable def m_are_takings_g1 : FE := vDef 3 m_is_number (aCons (vVar 2) (aCons (vC (.int 0)) (aCons (vC (.int 1000)) (aNil))))
@[reducible] noncomputable def m_are_takings_g2 : FE := vBin geP (vBinD ixD (vVar 1) (vVar 3)) (vBinD ixD (vVar 1) (vBin addP (vVar 3) (vC (.int 1))))
@[reducible] noncomputable def m_are_takings_b1 : FS := sSeq (sIf (vOr (tNot (vTru (vUn (isiP "tuple") (vVar 1)))) (asB (vBin gtP (vCall (one lenP) (aCons (vVar 1) (aNil))) (vC (.int 8))))) (sRet (vC (.bool false))) (sNil))
  (sSeq (sIf (tNot (vTru (vGb false (iSeq (vVar 1)) (gSet 2) (fYes) (m_are_takings_g1) [2]))) (sRet (vC (.bool false))) (sNil))
  (sIf (tNot (vTru (vGb false (iRange1 (vBin subP (vCall (one lenP) (aCons (vVar 1) (aNil))) (vC (.int 1)))) (gSet 3) (fYes) (m_are_takings_g2) [3]))) (sRet (vC (.bool false))) (sNil)))
noncomputable def m_are_takings : FM := entry 4 1 leaveF (sSeq (sIf (vOr (tNot (vTru (vUn (isiP "tuple") (vVar 0)))) (tNot (asB (vChain leP leP (vC (.int 1)) (vCall (one lenP) (aCons (vVar 0) (aNil))) (vC (.int 6)))))) (sRet (vC (.bool false))) (sNil))
  (sSeq (sFor (iSeq (vVar 0)) (gSet 1) (m_are_takings_b1))
  (sRet (vC (.bool true)))))

theorem sc_brings : FnScope ["takings", "counts", "row", "many"] ["takings", "counts"] (defScope (topS 14)) := ⟨rfl, rfl, rfl, by decide +kernel, rfl, by decide +kernel, by decide +kernel⟩
@[reducible] noncomputable def m_brings_c1 : FE := vCall (one sumP) (aCons (vSl (vVar 2) (oNone) (oSome (vVar 3))) (aNil))
noncomputable def m_brings : FM := entry 4 2 leaveF (sRet (vCall (one sumP) (aCons (vFz (nLc (iZip (vVar 0) (vVar 1)) (gTupV 2 (gsCons (gSet 2) (gsCons (gSet 3) (gsNil)))) (fYes) (m_brings_c1) [2, 3])) (aNil))))

theorem sc_check : FnScope ["takings", "nights", "row"] ["takings", "nights"] (defScope (topS 15)) := ⟨rfl, rfl, rfl, by decide +kernel, rfl, by decide +kernel, by decide +kernel⟩
@[reducible] noncomputable def m_check_c1 : FE := vCall (one lenP) (aCons (vVar 2) (aNil))
noncomputable def m_check : FM := entry 3 2 leaveF (sIf (tNot (vTru (vDef 3 m_is_number (aCons (vVar 1) (aCons (vC (.int 0)) (aCons (vCall (one sumP) (aCons (vFz (nLc (iSeq (vVar 0)) (gSet 2) (fYes) (m_check_c1) [2])) (aNil))) (aNil))))))) (sRaise ("OutOfRange" : Str)) (sNil))

theorem sc_best_sum : FnScope ["takings", "nights", "row", "one"] ["takings", "nights"] (defScope (topS 16)) := ⟨rfl, rfl, rfl, by decide +kernel, rfl, by decide +kernel, by decide +kernel⟩
@[reducible] noncomputable def m_best_sum_c1 : FE := vVar 3
@[reducible] noncomputable def m_best_sum_i1 : FI := iSeq (vVar 2)
noncomputable def m_best_sum : FM := entry 4 2 leaveF (sSeq (sExpr (vDefX 2 m_check (aCons (vVar 0) (aCons (vVar 1) (aNil)))))
  (sRet (vCall (one sumP) (aCons (vSl (vUn revP (vFz (nSorted (vFz (nLc2 (iSeq (vVar 0)) (gSet 2) (fYes) (m_best_sum_i1) (gSet 3) (fYes) (m_best_sum_c1) [2, 3] [3]))))) (oNone) (oSome (vVar 1))) (aNil)))))

theorem sc_best_counts : FnScope ["takings", "nights", "told", "left", "number", "row", "due", "behind", "room", "fits", "many", "other", "one"] ["takings", "nights"] (defScope (topS 17)) := ⟨rfl, rfl, rfl, by decide +kernel, rfl, by decide +kernel, by decide +kernel⟩
@[reducible] noncomputable def m_best_counts_c1 : FE := vCall (one lenP) (aCons (vVar 11) (aNil))
@[reducible] noncomputable def m_best_counts_c2 : FE := vVar 10
@[reducible] noncomputable def m_best_counts_t1 : FT := asB (vChain leP leP (vVar 10) (vVar 3) (vBin addP (vVar 10) (vVar 8)))
@[reducible] noncomputable def m_best_counts_c3 : FE := vVar 12
@[reducible] noncomputable def m_best_counts_t2 : FT := asB (vBin (eqP false) (vBin addP (vCall (one sumP) (aCons (vSl (vVar 5) (oNone) (oSome (vVar 12))) (aNil))) (vDef 2 (dropX m_best_sum) (aCons (vVar 7) (aCons (vBin subP (vVar 3) (vVar 12)) (aNil))))) (vVar 6))
@[reducible] noncomputable def m_best_counts_b1 : FS := sSeq (sSet 6 (vDefX 2 m_best_sum (aCons (vSl (vVar 0) (oSome (vVar 4)) (oNone)) (aCons (vVar 3) (aNil)))))
  (sSeq (sSet 7 (vSl (vVar 0) (oSome (vBin addP (vVar 4) (vC (.int 1)))) (oNone)))
  (sSeq (sSet 8 (vCall (one sumP) (aCons (vFz (nLc (iSeq (vVar 7)) (gSet 11) (fYes) (m_best_counts_c1) [11])) (aNil))))
  (sSeq (sSet 9 (vFz (nLc (iRange1 (vBin addP (vCall (one lenP) (aCons (vVar 5) (aNil))) (vC (.int 1)))) (gSet 10) (m_best_counts_t1) (m_best_counts_c2) [10])))
  (sSeq (sSet 10 (vBinD ixD (vFz (nLc (iSeq (vVar 9)) (gSet 12) (m_best_counts_t2) (m_best_counts_c3) [12])) (vC (.int 0))))
  (sSeq (sExpr (vMth isLstV mAppend (vVar 2) (aCons (vVar 10) (aNil))))
  (sSet 3 (vBin subP (vVar 3) (vVar 10))))))))
noncomputable def m_best_counts : FM := entry 13 2 leaveF (sSeq (sExpr (vDefX 2 m_check (aCons (vVar 0) (aCons (vVar 1) (aNil)))))
  (sSeq (sSet 2 (vOwn (nLst (aNil))))
  (sSeq (sSet 3 (vVar 1))
  (sSeq (sFor (iEnum (vVar 0)) (gTupV 2 (gsCons (gSet 4) (gsCons (gSet 5) (gsNil)))) (m_best_counts_b1))
  (sRet (vCall (one tupleP) (aCons (vVar 2) (aNil))))))))

theorem sc__law_open : FnScope ["script", "cells", "cell"] ["script"] (defScope (topS 19)) := ⟨rfl, rfl, rfl, by decide +kernel, rfl, by decide +kernel, by decide +kernel⟩
@[reducible] noncomputable def m__law_open_c1 : FE := vCall (one absP) (aCons (vCall (one intP1) (aCons (vVar 2) (aNil))) (aNil))
noncomputable def m__law_open : FM := entry 3 1 leaveN (sSeq (sSet 1 (vFz (nLc (iSeq (vSl (vVar 0) (oNone) (oSome (vC (.int 63))))) (gSet 2) (fYes) (m__law_open_c1) [2])))
  (sRet (vOwn (nLst (aCons (vC (.int 0)) (aCons (vC (.int 0)) (aCons (vBin addP (vVar 1) (vFz (nLst (aCons (vC (.int 0)) (aNil))))) (aNil))))))))

theorem sc__law_mixed : FnScope ["cell", "turn", "number"] ["cell", "turn"] (defScope (topS 20)) := ⟨rfl, rfl, rfl, by decide +kernel, rfl, by decide +kernel, by decide +kernel⟩
noncomputable def m__law_mixed : FM := entry 3 2 leaveF (sSeq (sSet 2 (vBin modP (vBin addP (vBin addP (vBin mulP (vBin modP (vVar 0) (vBin subP (vBin powP (vC (.int 2)) (vC (.int 61))) (vC (.int 1)))) (vC (.int 6364136223846793005))) (vBin mulP (vVar 1) (vC (.int 1442695040888963407)))) (vC (.int 97))) (vBin powP (vC (.int 2)) (vC (.int 61)))))
  (sSeq (sSet 2 (vBin modP (vBin mulP (vBin xorP (vVar 2) (vBin shrP (vVar 2) (vC (.int 29)))) (vC (.int 3935559000370003845))) (vBin powP (vC (.int 2)) (vC (.int 61)))))
  (sRet (vBin modP (vBin mulP (vBin xorP (vVar 2) (vBin shrP (vVar 2) (vC (.int 31)))) (vC (.int 2862933555777941757))) (vBin powP (vC (.int 2)) (vC (.int 61)))))))

theorem sc__law_draw : FnScope ["draws", "size", "turn", "left", "cells", "cell"] ["draws", "size"] (defScope (topS 21)) := ⟨rfl, rfl, rfl, by decide +kernel, rfl, by decide +kernel, by decide +kernel⟩
noncomputable def m__law_draw : FM := entry 6 2 leaveF (sSeq (sAsg (vVar 0) (gTupV 3 (gsCons (gSet 2) (gsCons (gSet 3) (gsCons (gSet 4) (gsNil))))))
  (sSeq (sIf (asB (vBin ltP (vVar 3) (vVar 1))) (sSeq (sSet 5 (vBinD ixD (vVar 4) (vBin modP (vVar 2) (vCall (one lenP) (aCons (vVar 4) (aNil))))))
  (sSeq (sSet 3 (vIf (vAnd (asB (vBin ltP (vVar 2) (vCall (one lenP) (aCons (vVar 4) (aNil))))) (asB (vBin geP (vVar 5) (vBin powP (vC (.int 10)) (vC (.int 18)))))) (vVar 5) (vDef 2 m__law_mixed (aCons (vVar 5) (aCons (vVar 2) (aNil))))))
  (sSet 2 (vBin addP (vVar 2) (vC (.int 1)))))) (sNil))
  (sSeq (sPut (vVar 2) (vVar 0) (vC (.int 0)))
  (sSeq (sPut (vBin fdivP (vVar 3) (vVar 1)) (vVar 0) (vC (.int 1)))
  (sRet (vBin modP (vVar 3) (vVar 1)))))))

theorem sc__law_told : FnScope ["error", "kinds", "names", "name", "true"] ["error"] (defScope (topS 22)) := ⟨rfl, rfl, rfl, by decide +kernel, rfl, by decide +kernel, by decide +kernel⟩

theorem sc__law_int : FnScope ["value"] ["value"] (defScope (topS 23)) := ⟨rfl, rfl, rfl, by decide +kernel, rfl, by decide +kernel, by decide +kernel⟩
noncomputable def m__law_int : FM := entry 1 1 leaveF (sRet (vAndV (vUn (isiP "int") (vVar 0)) (vNotV (vUn (isiP "bool") (vVar 0)))))

theorem sc__law_takings : FnScope ["draws", "top", "play", "k"] ["draws"] (defScope (topS 24)) := ⟨rfl, rfl, rfl, by decide +kernel, rfl, by decide +kernel, by decide +kernel⟩
@[reducible] noncomputable def m__law_takings_c1 : FE := vDef 2 m__law_draw (aCons (vVar 0) (aCons (vVar 1) (aNil)))
@[reducible] noncomputable def m__law_takings_c2 : FE := vCall (one tupleP) (aCons (vUn revP (vFz (nSorted (vFz (nLc (iRange1 (vDef 2 m__law_draw (aCons (vVar 0) (aCons (vC (.int 5)) (aNil))))) (gSet 3) (fYes) (m__law_takings_c1) [3]))))) (aNil))
noncomputable def m__law_takings : FM := entry 4 1 leaveF (sSeq (sSet 1 (vBinD ixD (vFz (nLst (aCons (vC (.int 3)) (aCons (vC (.int 10)) (aCons (vC (.int 1001)) (aNil)))))) (vDef 2 m__law_draw (aCons (vVar 0) (aCons (vC (.int 3)) (aNil))))))
  (sRet (vCall (one tupleP) (aCons (vFz (nLc (iRange1 (vBin addP (vC (.int 1)) (vDef 2 m__law_draw (aCons (vVar 0) (aCons (vC (.int 4)) (aNil)))))) (gSet 2) (fYes) (m__law_takings_c2) [2])) (aNil)))))

theorem sc__law_counts : FnScope ["takings", "told", "row", "later", "one", "many"] ["takings"] (defScope (topS 25)) := ⟨rfl, rfl, rfl, by decide +kernel, rfl, by decide +kernel, by decide +kernel⟩
@[reducible] noncomputable def m__law_counts_c1 : FE := vBin addP (vVar 4) (vTup (aCons (vVar 5) (aNil)))
@[reducible] noncomputable def m__law_counts_b1 : FS := sSet 3 (vBin addP (vVar 3) (vFz (nLc (iRange1 (vBin addP (vCall (one lenP) (aCons (vVar 2) (aNil))) (vC (.int 1)))) (gSet 5) (fYes) (m__law_counts_c1) [5])))
@[reducible] noncomputable def m__law_counts_b2 : FS := sSeq (sSet 3 (vFz (nLst (aNil))))
  (sSeq (sFor (iSeq (vVar 1)) (gSet 4) (m__law_counts_b1))
  (sSet 1 (vVar 3)))
noncomputable def m__law_counts : FM := entry 6 1 leaveF (sSeq (sSet 1 (vFz (nLst (aCons (vTup (aNil)) (aNil)))))
  (sSeq (sFor (iSeq (vVar 0)) (gSet 2) (m__law_counts_b2))
  (sRet (vVar 1))))

theorem sc__law_asked : FnScope ["what", "takings", "nights", "error"] ["what", "takings", "nights"] (defScope (topS 26)) := ⟨rfl, rfl, rfl, by decide +kernel, rfl, by decide +kernel, by decide +kernel⟩
@[reducible] noncomputable def m__law_asked_y1 : FS := sRet (vIf (asB (vBin (eqP false) (vVar 0) (vC (.int 0)))) (vDefX 2 m_best_counts (aCons (vVar 1) (aCons (vVar 2) (aNil)))) (vDefX 2 m_best_sum (aCons (vVar 1) (aCons (vVar 2) (aNil)))))
noncomputable def m__law_asked : FM := entry 4 3 leaveF (sTry 3 (m__law_asked_y1) (wdN [("OutOfRange" : Str)]))

theorem sc_law : FnScope ["script", "draws", "takings", "wrong", "rows", "every", "sums", "row", "nights", "marks", "due", "k", "what", "value"] ["script"] (defScope (topS 27)) := ⟨rfl, rfl, rfl, by decide +kernel, rfl, by decide +kernel, by decide +kernel⟩
@[reducible] noncomputable def m_law_c1 : FE := vVar 13
@[reducible] noncomputable def m_law_t1 : FT := asB (vBin (isP true) (vDef 1 m_are_takings (aCons (vVar 13) (aNil))) (vC (.bool false)))
@[reducible] noncomputable def m_law_b1 : FS := sSet 5 (vBin addP (vVar 5) (vFz (nListOf (vVar 7))))
@[reducible] noncomputable def m_law_c2 : FE := vCall (one sumP) (aCons (vSl (vBinD ixD (vVar 2) (vVar 11)) (oNone) (oSome (vBinD ixD (vVar 7) (vVar 11)))) (aNil))
@[reducible] noncomputable def m_law_c3 : FE := vTup (aCons (vUn negP (vCall (one sumP) (aCons (vFz (nLc (iRange1 (vCall (one lenP) (aCons (vVar 7) (aNil)))) (gSet 11) (fYes) (m_law_c2) [11])) (aNil)))) (aCons (vVar 7) (aNil)))
@[reducible] noncomputable def m_law_t2 : FT := asB (vBin (eqP false) (vCall (one sumP) (aCons (vVar 7) (aNil))) (vVar 8))
@[reducible] noncomputable def m_law_b2 : FS := sSeq (sSet 9 (vFz (nLc (iSeq (vVar 4)) (gSet 7) (m_law_t2) (m_law_c3) [7])))
  (sSeq (sSet 10 (vCall minP (aCons (vVar 9) (aNil))))
  (sSeq (sIf (vOr (asB (vBin (eqP true) (vDef 3 m__law_asked (aCons (vC (.int 0)) (aCons (vVar 2) (aCons (vVar 8) (aNil))))) (vBinD ixD (vVar 10) (vC (.int 1))))) (vOr (asB (vBin (eqP true) (vDef 3 m__law_asked (aCons (vC (.int 1)) (aCons (vVar 2) (aCons (vVar 8) (aNil))))) (vUn negP (vBinD ixD (vVar 10) (vC (.int 0)))))) (asB (vBin (eqP true) (vUn negP (vBinD ixD (vVar 10) (vC (.int 0)))) (vCall (one sumP) (aCons (vSl (vUn revP (vFz (nSorted (vVar 5)))) (oNone) (oSome (vVar 8))) (aNil))))))) (sRet (vC (.bool false))) (sNil))
  (sSeq (sExpr (vMth isLstV mAppend (vVar 6) (aCons (vUn negP (vBinD ixD (vVar 10) (vC (.int 0)))) (aNil))))
  (sSeq (sSet 7 (vBinD ixD (vVar 9) (vDef 2 m__law_draw (aCons (vVar 1) (aCons (vCall (one lenP) (aCons (vVar 9) (aNil))) (aNil))))))
  (sIf (vOr (asB (vBin (eqP true) (vDef 2 m_brings (aCons (vVar 2) (aCons (vBinD ixD (vVar 7) (vC (.int 1))) (aNil)))) (vUn negP (vBinD ixD (vVar 7) (vC (.int 0)))))) (tNot (vTru (vDef 1 m__law_int (aCons (vDef 2 m_brings (aCons (vVar 2) (aCons (vBinD ixD (vVar 7) (vC (.int 1))) (aNil)))) (aNil)))))) (sRet (vC (.bool false))) (sNil))))))
@[reducible] noncomputable def m_law_c4 : FE := vVar 11
@[reducible] noncomputable def m_law_t3 : FT := asB (vBin gtP (vBin subP (vBinD ixD (vVar 6) (vVar 11)) (vBinD ixD (vVar 6) (vBin subP (vVar 11) (vC (.int 1))))) (vBin subP (vBinD ixD (vVar 6) (vBin subP (vVar 11) (vC (.int 1)))) (vBinD ixD (vVar 6) (vBin subP (vVar 11) (vC (.int 2))))))
@[reducible] noncomputable def m_law_c5 : FE := vDef 3 m__law_asked (aCons (vVar 12) (aCons (vVar 2) (aCons (vVar 8) (aNil))))
noncomputable def m_law : FM := entry 14 1 leaveF (sSeq (sSet 1 (vDef 1 m__law_open (aCons (vVar 0) (aNil))))
  (sSeq (sSet 2 (vDef 1 m__law_takings (aCons (vVar 1) (aNil))))
  (sSeq (sSet 3 (vFz (nLst (aCons (vC .none) (aCons (vTup (aNil)) (aCons (vFz (nListOf (vVar 2))) (aCons (vBin mulP (vTup (aCons (vTup (aNil)) (aNil))) (vC (.int 7))) (aCons (vTup (aCons (vC .none) (aNil))) (aCons (vTup (aCons (vFz (nLst (aCons (vC (.int 5)) (aNil)))) (aNil))) (aCons (vTup (aCons (vTup (aCons (vC (.int 1)) (aCons (vC (.int 2)) (aNil)))) (aNil))) (aCons (vTup (aCons (vTup (aCons (vC (.int 1001)) (aNil))) (aNil))) (aCons (vTup (aCons (vTup (aCons (vUn negP (vC (.int 1))) (aNil))) (aNil))) (aCons (vTup (aCons (vTup (aCons (vC (.bool true)) (aNil))) (aNil))) (aCons (vTup (aCons (vTup (aCons (vC .none) (aNil))) (aNil))) (aCons (vTup (aCons (vBin mulP (vTup (aCons (vC (.int 1)) (aNil))) (vC (.int 9))) (aNil))) (aCons (vC (.int 5)) (aNil)))))))))))))))))
  (sSeq (sIf (vOr (asB (vBin (isP true) (vDef 1 m_are_takings (aCons (vVar 2) (aNil))) (vC (.bool true)))) (vOr (asB (vBin (isP true) (vDef 1 m_are_takings (aCons (vBin mulP (vTup (aCons (vBin mulP (vTup (aCons (vC (.int 1000)) (aNil))) (vC (.int 8))) (aNil))) (vC (.int 6))) (aNil))) (vC (.bool true)))) (asB (vBin (eqP true) (vFz (nLc (iSeq (vVar 3)) (gSet 13) (m_law_t1) (m_law_c1) [13])) (vFz (nLst (aNil))))))) (sRet (vC (.bool false))) (sNil))
  (sSeq (sSet 4 (vDef 1 m__law_counts (aCons (vVar 2) (aNil))))
  (sSeq (sAsgT (aCons (vFz (nLst (aNil))) (aCons (vOwn (nLst (aNil))) (aNil))) 2 (gsCons (gSet 5) (gsCons (gSet 6) (gsNil))))
  (sSeq (sFor (iSeq (vVar 2)) (gSet 7) (m_law_b1))
  (sSeq (sFor (iRange1 (vBin addP (vCall (one lenP) (aCons (vVar 5) (aNil))) (vC (.int 1)))) (gSet 8) (m_law_b2))
  (sSeq (sIf (asB (vBin (eqP true) (vFz (nLc (iRange2 (vC (.int 2)) (vCall (one lenP) (aCons (vVar 6) (aNil)))) (gSet 11) (m_law_t3) (m_law_c4) [11])) (vFz (nLst (aNil))))) (sRet (vC (.bool false))) (sNil))
  (sRet (vBin (eqP false) (vFz (nLc (iSeq (vFz (nLst (aCons (vTup (aCons (vC (.int 0)) (aCons (vUn negP (vC (.int 1))) (aNil)))) (aCons (vTup (aCons (vC (.int 0)) (aCons (vBin addP (vCall (one lenP) (aCons (vVar 5) (aNil))) (vC (.int 1))) (aNil)))) (aCons (vTup (aCons (vC (.int 1)) (aCons (vBin addP (vCall (one lenP) (aCons (vVar 5) (aNil))) (vC (.int 1))) (aNil)))) (aCons (vTup (aCons (vC (.int 1)) (aCons (vC (.bool true)) (aNil)))) (aNil)))))))) (gTupV 2 (gsCons (gSet 12) (gsCons (gSet 8) (gsNil)))) (fYes) (m_law_c5) [12, 8])) (vFz (nRep (nLst (aCons (vC (.str ("OutOfRange" : Str))) (aNil))) (vC (.int 4)))))))))))))))

end K52

namespace K52
open PySem PySem.Spec PyProof.Rows L2 VL
theorem draw_eq : m__law_draw = dB_draw := rfl
theorem open_eq : m__law_open = dB_open := rfl
theorem num_eq : m_is_number = dI_num := rfl
theorem num_in {d : PyData} (h : numOk d) (a b : Int) (st : Store) : m_is_number [.p d, .p (.int a), .p (.int b)] st = .ok (.p (.bool (numB a b d)), st) := num_any h a b st
theorem takeB {ob : Ob} (hd : DrB ob) (Y : Store) {b : Int} (h0 : 0 < b) (h1 : b < 2 ^ 60) : ∃ (v : Nat) (ob' : Ob), m__law_draw [.loc 0, .p (.int b)] (ob :: Y) = .ok (.p (natD v), ob' :: Y) ∧ DrB ob' ∧ (v : Int) < b := by
  obtain ⟨v, ob', e, d, h2, h3⟩ := drawB_ok (st := ob :: Y) (k := 0) rfl hd h0 h1
  obtain ⟨j, rfl⟩ : ∃ j : Nat, v = (j : Int) := ⟨v.toNat, by omega⟩
  exact ⟨j, ob', e, d, h3⟩
theorem addN (a b : Nat) : addP (natD a) (natD b) = .ok (natD (a + b)) := by
  rw [show addP (natD a) (natD b) = addP (.int (a : Int)) (.int (b : Int)) from rfl, addP_int]
  show R.ok (PyData.int _) = R.ok (PyData.int _)
  congr 2
theorem leN (a b : Nat) : leP (natD a) (natD b) = .ok (.bool (decide (a ≤ b))) := by
  rw [show leP (natD a) (natD b) = leP (.int (a : Int)) (.int (b : Int)) from rfl, leP_int]
  congr 2
  rw [decide_eq_decide]; omega
theorem geN (a b : Nat) : geP (natD a) (natD b) = .ok (.bool (decide (b ≤ a))) := by
  rw [show geP (natD a) (natD b) = geP (.int (a : Int)) (.int (b : Int)) from rfl, geP_int]
  congr 2
  rw [decide_eq_decide]; omega
theorem gtN (a b : Nat) : gtP (natD a) (natD b) = .ok (.bool (decide (b < a))) := by
  rw [show gtP (natD a) (natD b) = gtP (.int (a : Int)) (.int (b : Int)) from rfl, gtP_int]
  congr 2
  rw [decide_eq_decide]; omega
theorem eqI (b : Bool) (i j : Nat) : eqP b (.int (i : Int)) (.int (j : Int)) = .ok (.bool (decide (i = j) != b)) := by
  rw [eqP_int]
  have : decide ((i : Int) = (j : Int)) = decide (i = j) := by rw [decide_eq_decide]; omega
  rw [this]
abbrev Tk := List (List Nat)
abbrev TkD (T : Tk) : PyData := .tuple (T.map rowD)
abbrev Dsc (l : List Nat) : Prop := l.Pairwise (· ≥ ·)
/-- a list, the greatest first -/
def dsc (l : List Nat) : List Nat := (srt l).reverse
theorem dsc_ok (l : List Nat) : (dsc l).Perm l ∧ Dsc (dsc l) :=
  ⟨(List.reverse_perm _).trans (srt_perm l), List.pairwise_reverse.mpr ((srt_asc l).imp fun h => h)⟩
structure TOk (T : Tk) : Prop where
  lo : 1 ≤ T.length
  hi : T.length ≤ 6
  ln : ∀ r ∈ T, r.length ≤ 8
  ds : ∀ r ∈ T, Dsc r
  mx : ∀ r ∈ T, ∀ x ∈ r, x ≤ 1000
/-! ### takings drawn -/
abbrev TS (top : Nat) (x2 x3 : Option Vd) : Slots := [some (.loc 0), some (.p (natD top)), x2, x3]
theorem v_desc {f : FE} {ρ : Slots} {st st1 : Store} {V : List Nat} (h : f ρ st = .ok (.p (.list (V.map natD)), st1)) : vUn revP (vFz (nSorted f)) ρ st = .ok (.p (.list ((dsc V).map natD)), st1) := by
  have hs := ev_fzL (en_sorted h rfl rfl (sok_nats V))
  rw [srtD] at hs
  refine ev_un hs rfl ?_
  show R.ok (PyData.list ((srt V).map natD).reverse) = _
  unfold dsc
  rw [List.map_reverse]
theorem draws_lc {top : Nat} (h0 : 0 < top) (h1 : top ≤ 1001) {x2 : Option Vd} (src : List PyData) (Y : Store) : ∀ (l : List Nat) {ob : Ob}, DrB ob → ∃ (ob' : Ob) (V : List Nat), lcG ⟨src, none⟩ (gSet 3) fYes m__law_takings_c1 (TS top x2 none) (l.map natD) (ob :: Y) = .ok (V.map natD, ob' :: Y) ∧ DrB ob' ∧ V.length = l.length ∧ ∀ v ∈ V, v < top
  | [], ob, hd => ⟨ob, [], lcG_nilO (show (Src.mk src none).Ok _ from trivial), hd, rfl, fun v h => by cases h⟩
  | k :: l, ob, hd => by
    obtain ⟨v, ob1, e1, d1, hv⟩ := takeB hd Y (b := (top : Int)) (by omega) (by omega)
    obtain ⟨ob2, V, e2, d2, hV, hm⟩ := draws_lc h0 h1 (x2 := x2) src Y l d1
    refine ⟨ob2, v :: V, ?_, d2, by rw [List.length_cons, List.length_cons, hV], fun x hx => ?_⟩
    · have hc : m__law_takings_c1 (TS top x2 (some (.p (natD k)))) (ob :: Y) = .ok (.p (natD v), ob1 :: Y) := ev_def (ea_cons (ev_var rfl) (ea_cons (ev_var rfl) ea_nil)) rfl e1
      rw [List.map_cons, lcG_cons0]
      show (R.ok (TS top x2 (some (.p (natD k)))) >>= _) = _
      rw [R.ok_bind]
      show (m__law_takings_c1 (TS top x2 (some (.p (natD k)))) (ob :: Y) >>= _) = _
      rw [hc, R.ok_bind]
      show (lcG _ _ _ _ _ _ (ob1 :: Y) >>= _) = _
      rw [e2]; rfl
    · rcases List.mem_cons.mp hx with rfl | hx
      · omega
      · exact hm x hx
theorem row_c2 {top : Nat} (h0 : 0 < top) (h1 : top ≤ 1001) {x2 : Option Vd} (Y : Store) {ob : Ob} (hd : DrB ob) : ∃ ob' V, m__law_takings_c2 (TS top x2 none) (ob :: Y) = .ok (.p (rowD (dsc V)), ob' :: Y) ∧ DrB ob' ∧ V.length ≤ 4 ∧ ∀ v ∈ V, v < top := by
  obtain ⟨v, ob1, e1, d1, hv⟩ := takeB hd Y (b := 5) (by decide) (by decide)
  obtain ⟨ob2, V, e2, d2, hV, hm⟩ := draws_lc h0 h1 (x2 := x2) ((List.range v).map natD) Y (List.range v) d1
  rw [List.length_range] at hV
  refine ⟨ob2, V, ?_, d2, by omega, hm⟩
  exact ev_call (ea_cons (v_desc (ev_fzL (en_lcRaw (ρw := TS top x2 none) (ei_rangeN (ev_def (ea_cons (ev_var rfl) (ea_cons ev_c ea_nil)) rfl e1) (by omega)) rfl e2 (by rw [List.length_map, LIM_eq]; omega)))) ea_nil) (pkL_cons rfl pkL_nil) ((one_ap _ _).trans (tupleP_lst _))
theorem rows_lc {top : Nat} (h0 : 0 < top) (h1 : top ≤ 1001) (src : List PyData) (Y : Store) : ∀ (l : List Nat) {ob : Ob}, DrB ob → ∃ (ob' : Ob) (T : Tk), lcG ⟨src, none⟩ (gSet 2) fYes m__law_takings_c2 (TS top none none) (l.map natD) (ob :: Y) = .ok (T.map rowD, ob' :: Y) ∧ DrB ob' ∧ T.length = l.length ∧ ∀ r ∈ T, r.length ≤ 4 ∧ Dsc r ∧ ∀ x ∈ r, x ≤ 1000
  | [], ob, hd => ⟨ob, [], lcG_nilO (show (Src.mk src none).Ok _ from trivial), hd, rfl, fun v h => by cases h⟩
  | k :: l, ob, hd => by
    obtain ⟨ob1, V, e1, d1, hVl, hVm⟩ := row_c2 h0 h1 (x2 := some (.p (natD k))) Y hd
    obtain ⟨ob2, T, e2, d2, hT, hm⟩ := rows_lc h0 h1 src Y l d1
    refine ⟨ob2, dsc V :: T, ?_, d2, by rw [List.length_cons, List.length_cons, hT], fun x hx => ?_⟩
    · rw [List.map_cons, lcG_cons0]
      show (R.ok (TS top (some (.p (natD k))) none) >>= _) = _
      rw [R.ok_bind]
      show (m__law_takings_c2 (TS top (some (.p (natD k))) none) (ob :: Y) >>= _) = _
      rw [e1, R.ok_bind]
      show (lcG _ _ _ _ _ _ (ob1 :: Y) >>= _) = _
      rw [e2]; rfl
    · rcases List.mem_cons.mp hx with rfl | hx
      · refine ⟨by rw [(dsc_ok V).1.length_eq]; exact hVl, (dsc_ok V).2, fun y hy => ?_⟩
        have := hVm y ((dsc_ok V).1.mem_iff.mp hy)
        omega
      · exact hm x hx
theorem take_ok {ob : Ob} (hd : DrB ob) : ∃ T ob', m__law_takings [.loc 0] [ob] = .ok (.p (TkD T), [ob']) ∧ DrB ob' ∧ TOk T ∧ T.length ≤ 4 ∧ ∀ r ∈ T, r.length ≤ 4 := by
  obtain ⟨v, ob1, e1, d1, hv⟩ := takeB hd [] (b := 3) (by decide) (by decide)
  obtain ⟨top, ht, h0, h1⟩ : ∃ top : Nat, L2.atI [PyData.int 3, .int 10, .int 1001] (v : Int) = some (natD top) ∧ 0 < top ∧ top ≤ 1001 := by
    have : v = 0 ∨ v = 1 ∨ v = 2 := by omega
    rcases this with rfl | rfl | rfl
    · exact ⟨3, rfl, by decide, by decide⟩
    · exact ⟨10, rfl, by decide, by decide⟩
    · exact ⟨1001, rfl, by decide, by decide⟩
  obtain ⟨w, ob2, e2, d2, hw⟩ := takeB d1 [] (b := 4) (by decide) (by decide)
  obtain ⟨ob3, T, e3, d3, hT, hm⟩ := rows_lc h0 h1 ((List.range (1 + w)).map natD) [] (List.range (1 + w)) d2
  rw [List.length_range] at hT
  refine ⟨T, ob3, ?_, d3, ⟨by omega, by omega, fun r hr => by have := (hm r hr).1; omega, fun r hr => (hm r hr).2.1, fun r hr => (hm r hr).2.2⟩, by omega, fun r hr => (hm r hr).1⟩
  unfold m__law_takings
  exact ed_ent (EntK.c (EntK.n (EntK.n (EntK.n EntK.z)))) rfl (es_seq (es_set (ρ' := TS top none none) (ev_binD (ev_fzL (en_lst (ea_cons ev_c (ea_cons ev_c (ea_cons ev_c ea_nil))) rfl (lim_lit (n := 3) rfl (by decide)))) (ev_def (ea_cons (ev_var rfl) (ea_cons ev_c ea_nil)) rfl e1) (ixN_p ht)) rfl) (SeqK.nx (es_ret (ev_call (ea_cons (ev_fzL (en_lcRaw (ρw := TS top none none) (ei_rangeN (ev_bin ev_c (ev_def (ea_cons (ev_var rfl) (ea_cons ev_c ea_nil)) rfl e2) rfl rfl (addN 1 w)) (by omega)) rfl e3 (by rw [List.length_map, LIM_eq]; omega))) ea_nil) (pkL_cons rfl pkL_nil) ((one_ap _ _).trans (tupleP_lst _)))))) (ed_rtF' rfl)
end K52

namespace K52
open VL (lexLe)
/-! ### the greatest of a list -/
theorem take_shift : ∀ {D : List Nat} {a : Nat} (n : Nat), (∀ y ∈ D, y ≤ a) → Dsc D → (D.take n).sum ≤ ((a :: D).take n).sum
  | _, _, 0, _, _ => by simp
  | [], _, n + 1, _, _ => by simp
  | d :: D, a, n + 1, h, hd => by
    rw [List.take_succ_cons, List.take_succ_cons, List.sum_cons, List.sum_cons]
    have h1 := h d List.mem_cons_self
    have h2 := take_shift (D := D) (a := d) n (fun y hy => (List.pairwise_cons.mp hd).1 y hy) (List.pairwise_cons.mp hd).2
    omega
theorem top_sum : ∀ {D s r : List Nat}, Dsc D → D.Perm (s ++ r) → s.sum ≤ (D.take s.length).sum
  | [], s, r, _, h => by
    have := h.length_eq
    rw [List.length_nil, List.length_append] at this
    have : s = [] := List.eq_nil_of_length_eq_zero (by omega)
    rw [this]; simp
  | a :: D, s, r, hd, h => by
    have hd' := (List.pairwise_cons.mp hd)
    rcases List.mem_append.mp (h.mem_iff.mp List.mem_cons_self) with ha | ha
    · have hp := List.perm_cons_erase ha
      have h2 : D.Perm (s.erase a ++ r) := List.Perm.cons_inv (h.trans (hp.append_right r))
      have ih := top_sum hd'.2 h2
      have hl := hp.length_eq
      have hs : s.sum = a + (s.erase a).sum := by rw [hp.sum_nat, List.sum_cons]
      rw [hl, List.length_cons, List.take_succ_cons, List.sum_cons, hs]
      omega
    · have hp := List.perm_cons_erase ha
      have h2 : D.Perm (s ++ r.erase a) := List.Perm.cons_inv ((h.trans (hp.append_left s)).trans List.perm_middle)
      have ih := top_sum hd'.2 h2
      have := take_shift (D := D) (a := a) s.length (fun y hy => hd'.1 y hy) hd'.2
      omega
theorem dsc_uniq {D E : List Nat} (h : D.Perm E) (h1 : Dsc D) (h2 : Dsc E) : D = E := h.eq_of_pairwise (fun a b _ _ h3 h4 => Nat.le_antisymm h4 h3) h1 h2
/-! ### counts -/
def taken : List (List Nat) → List Nat → List Nat
  | row :: T, c :: cs => row.take c ++ taken T cs
  | _, _ => []
def rest : List (List Nat) → List Nat → List Nat
  | row :: T, c :: cs => row.drop c ++ rest T cs
  | _, _ => []
def okC : List (List Nat) → List Nat → Prop
  | [], [] => True
  | row :: T, c :: cs => c ≤ row.length ∧ okC T cs
  | _, _ => False
theorem tak_perm : ∀ {T : List (List Nat)} {c : List Nat}, okC T c → (taken T c ++ rest T c).Perm T.flatten
  | [], [], _ => .refl _
  | row :: T, c :: cs, h => by
    have ih := tak_perm h.2
    show (row.take c ++ taken T cs ++ (row.drop c ++ rest T cs)).Perm (row ++ T.flatten)
    have e : row = row.take c ++ row.drop c := (List.take_append_drop c row).symm
    conv => rhs; rw [e]
    rw [List.append_assoc, List.append_assoc]
    refine List.Perm.append_left _ ?_
    rw [← List.append_assoc]
    refine (List.Perm.append_right _ List.perm_append_comm).trans ?_
    rw [List.append_assoc]
    exact List.Perm.append_left _ ih
  | [], _ :: _, h => h.elim
  | _ :: _, [], h => h.elim
theorem tak_len : ∀ {T : List (List Nat)} {c : List Nat}, okC T c → (taken T c).length = c.sum
  | [], [], _ => rfl
  | row :: T, c :: cs, h => by
    show (row.take c ++ taken T cs).length = _
    rw [List.length_append, List.length_take, tak_len h.2, List.sum_cons, Nat.min_eq_left h.1]
  | [], _ :: _, h => h.elim
  | _ :: _, [], h => h.elim
def pre (T : List (List Nat)) (c : List Nat) : Nat := (taken T c).sum
section
variable (srtd : List Nat → List Nat)
def best (T : List (List Nat)) (n : Nat) : Nat := ((srtd T.flatten).take n).sum
end
section
variable {srtd : List Nat → List Nat} (hs : ∀ l, (srtd l).Perm l ∧ Dsc (srtd l))
include hs
theorem pre_le {T : List (List Nat)} {c : List Nat} (h : okC T c) : pre T c ≤ best srtd T c.sum := by
  have h1 := top_sum (s := taken T c) (r := rest T c) (hs T.flatten).2 ((hs T.flatten).1.trans (tak_perm h).symm)
  rw [tak_len h] at h1
  exact h1
omit hs in
theorem one_more : ∀ {T : List (List Nat)} {c : List Nat} {x : Nat}, (∀ row ∈ T, Dsc row) → okC T c → x ∈ rest T c → (∀ y ∈ rest T c, y ≤ x) → ∃ c', okC T c' ∧ (taken T c').Perm (x :: taken T c)
  | [], [], _, _, _, h, _ => by cases h
  | row :: T, c :: cs, x, hd, ho, hx, hm => by
    by_cases h : x ∈ row.drop c
    · obtain ⟨i, hi, he⟩ := List.getElem_of_mem h
      have hc : c < row.length := by
        rw [List.length_drop] at hi; omega
      have hge : x ≤ row[c] := by
        rw [List.getElem_drop] at he
        rcases Nat.eq_zero_or_pos i with z | z
        · subst z
          have : row[c + 0] = row[c] := rfl
          rw [← he]; exact Nat.le_of_eq this
        · have := List.pairwise_iff_getElem.mp (hd row List.mem_cons_self) c (c + i) hc (by rw [List.length_drop] at hi; omega) (by omega)
          rw [he] at this; exact this
      have hle : row[c] ≤ x := hm _ (List.mem_append_left _ (by rw [List.drop_eq_getElem_cons hc]; exact List.mem_cons_self))
      have hxe : row[c] = x := Nat.le_antisymm hle hge
      refine ⟨(c + 1) :: cs, ⟨hc, ho.2⟩, ?_⟩
      show (row.take (c + 1) ++ taken T cs).Perm (x :: (row.take c ++ taken T cs))
      rw [List.take_succ_eq_append_getElem hc, hxe, List.append_assoc]
      exact List.perm_middle
    · have hx' : x ∈ rest T cs := (List.mem_append.mp hx).resolve_left h
      obtain ⟨c', h1, h2⟩ := one_more (T := T) (c := cs) (x := x) (fun r hr => hd r (List.mem_cons_of_mem _ hr)) ho.2 hx' fun y hy => hm y (List.mem_append_right _ hy)
      refine ⟨c :: c', ⟨ho.1, h1⟩, ?_⟩
      show (row.take c ++ taken T c').Perm (x :: (row.take c ++ taken T cs))
      exact (List.Perm.append_left _ h2).trans List.perm_middle
  | [], _ :: _, _, _, h, _, _ => h.elim
  | _ :: _, [], _, _, h, _, _ => h.elim
omit hs in
theorem zero_ok : ∀ T : List (List Nat), okC T (T.map fun _ => 0) ∧ taken T (T.map fun _ => 0) = []
  | [] => ⟨trivial, rfl⟩
  | row :: T => ⟨⟨Nat.zero_le _, (zero_ok T).1⟩, by
    show row.take 0 ++ taken T (T.map fun _ => 0) = []
    rw [(zero_ok T).2, List.take_zero]; rfl⟩
theorem attain {T : List (List Nat)} (hd : ∀ row ∈ T, Dsc row) : ∀ n, n ≤ T.flatten.length → ∃ c, okC T c ∧ c.sum = n ∧ (taken T c).Perm ((srtd T.flatten).take n)
  | 0, _ => ⟨_, (zero_ok T).1, by rw [← tak_len (zero_ok T).1, (zero_ok T).2]; rfl, by rw [(zero_ok T).2, List.take_zero]⟩
  | n + 1, hn => by
    obtain ⟨c, ho, hc, hp⟩ := attain hd n (by omega)
    obtain ⟨hD, hdd⟩ := hs T.flatten
    have hl := hD.length_eq
    have hr : (rest T c).Perm ((srtd T.flatten).drop n) := by
      have h1 : (taken T c ++ rest T c).Perm ((srtd T.flatten).take n ++ (srtd T.flatten).drop n) := by
        rw [List.take_append_drop]
        exact (tak_perm ho).trans hD.symm
      exact (List.perm_append_left_iff _).mp ((List.Perm.append_right _ hp.symm).trans h1)
    have hlt : n < (srtd T.flatten).length := by omega
    have hdr := List.drop_eq_getElem_cons hlt
    have hx : (srtd T.flatten)[n] ∈ rest T c := hr.mem_iff.mpr (by rw [hdr]; exact List.mem_cons_self)
    have hm : ∀ y ∈ rest T c, y ≤ (srtd T.flatten)[n] := fun y hy => by
      have := hr.mem_iff.mp hy
      rw [hdr] at this
      rcases List.mem_cons.mp this with h | h
      · exact Nat.le_of_eq h
      · have hq := hdd.sublist (List.drop_sublist n _)
        rw [hdr] at hq
        exact (List.pairwise_cons.mp hq).1 y h
    obtain ⟨c', h1, h2⟩ := one_more hd ho hx hm
    refine ⟨c', h1, ?_, ?_⟩
    · rw [← tak_len h1, h2.length_eq, List.length_cons, tak_len ho, hc]
    · rw [List.take_succ_eq_append_getElem hlt]
      exact (h2.trans (hp.cons _)).trans (List.perm_append_singleton _ _).symm
theorem attain' {T : List (List Nat)} (hd : ∀ row ∈ T, Dsc row) {n : Nat} (hn : n ≤ T.flatten.length) : ∃ c, okC T c ∧ c.sum = n ∧ pre T c = best srtd T n := by
  obtain ⟨c, h1, h2, h3⟩ := attain hs hd n hn
  exact ⟨c, h1, h2, h3.sum_nat⟩
/-- what a row may take -/
def fitB (srtd : List Nat → List Nat) (row : List Nat) (T : List (List Nat)) (n m : Nat) : Bool := decide (m ≤ n ∧ n ≤ m + T.flatten.length) && decide ((row.take m).sum + best srtd T (n - m) = best srtd (row :: T) n)
omit hs in
theorem pre_cons (row : List Nat) (T : List (List Nat)) (m : Nat) (c : List Nat) : pre (row :: T) (m :: c) = (row.take m).sum + pre T c := by
  show (row.take m ++ taken T c).sum = _
  rw [List.sum_append]; rfl
theorem fit_le {row : List Nat} {T : List (List Nat)} (hd : ∀ r ∈ row :: T, Dsc r) {n m : Nat} (hm : m ≤ row.length) (h1 : m ≤ n) (h2 : n ≤ m + T.flatten.length) : (row.take m).sum + best srtd T (n - m) ≤ best srtd (row :: T) n := by
  obtain ⟨c, o, hc, hp⟩ := attain' hs (T := T) (fun r hr => hd r (List.mem_cons_of_mem _ hr)) (n := n - m) (by omega)
  have := pre_le hs (T := row :: T) (c := m :: c) ⟨hm, o⟩
  rw [pre_cons, List.sum_cons, hc, hp, show m + (n - m) = n by omega] at this
  exact this
theorem fit_of {row : List Nat} {T : List (List Nat)} (hd : ∀ r ∈ row :: T, Dsc r) {m : Nat} {c : List Nat} (ho : okC (row :: T) (m :: c)) {n : Nat} (hn : (m :: c).sum = n) (hb : pre (row :: T) (m :: c) = best srtd (row :: T) n) : fitB srtd row T n m = true ∧ pre T c = best srtd T (n - m) := by
  rw [List.sum_cons] at hn
  have hcl : c.sum ≤ T.flatten.length := by
    rw [← tak_len ho.2, ← (tak_perm ho.2).length_eq, List.length_append]; omega
  have h1 := pre_le hs ho.2
  have h2 := fit_le hs hd (n := n) ho.1 (by omega) (by omega)
  rw [pre_cons] at hb
  rw [show n - m = c.sum by omega] at h2 ⊢
  refine ⟨?_, by omega⟩
  unfold fitB
  rw [Bool.and_eq_true, decide_eq_true_iff, decide_eq_true_iff, show n - m = c.sum by omega]
  exact ⟨by omega, by omega⟩
/-- the told counts -/
def told (srtd : List Nat → List Nat) : List (List Nat) → Nat → List Nat
  | [], _ => []
  | row :: T, n => let m := ((List.range (row.length + 1)).filter (fitB srtd row T n)).headD 0; m :: told srtd T (n - m)
theorem fits_ne {row : List Nat} {T : List (List Nat)} (hd : ∀ r ∈ row :: T, Dsc r) {n : Nat} (hn : n ≤ (row :: T).flatten.length) : ∃ m r, (List.range (row.length + 1)).filter (fitB srtd row T n) = m :: r := by
  obtain ⟨c, o, hc, hp⟩ := attain' hs hd hn
  cases c with
  | nil => exact o.elim
  | cons m c =>
    have := (fit_of hs hd o hc hp).1
    have hm : m ∈ (List.range (row.length + 1)).filter (fitB srtd row T n) := List.mem_filter.mpr ⟨List.mem_range.mpr (Nat.lt_succ_of_le o.1), this⟩
    cases hf : (List.range (row.length + 1)).filter (fitB srtd row T n) with
    | nil => rw [hf] at hm; cases hm
    | cons a r => exact ⟨a, r, rfl⟩
theorem told_ok : ∀ {T : List (List Nat)}, (∀ r ∈ T, Dsc r) → ∀ {n : Nat}, n ≤ T.flatten.length → okC T (told srtd T n) ∧ (told srtd T n).sum = n ∧ pre T (told srtd T n) = best srtd T n ∧ ∀ c, okC T c → c.sum = n → pre T c = best srtd T n → lexLe (told srtd T n) c
  | [], _, n, hn => by
    have : n = 0 := Nat.le_zero.mp hn
    subst this
    exact ⟨trivial, rfl, by show 0 = ((srtd []).take 0).sum; rw [List.take_zero]; rfl, fun _ _ _ _ => trivial⟩
  | row :: T, hd, n, hn => by
    obtain ⟨m, r, hf⟩ := fits_ne hs hd hn
    have hmf : m ∈ (List.range (row.length + 1)).filter (fitB srtd row T n) := by rw [hf]; exact List.mem_cons_self
    obtain ⟨hm, hfit⟩ := List.mem_filter.mp hmf
    have hm := List.mem_range.mp hm
    unfold fitB at hfit
    rw [Bool.and_eq_true, decide_eq_true_iff, decide_eq_true_iff] at hfit
    obtain ⟨i1, i2, i3, i4⟩ := told_ok (T := T) (fun r hr => hd r (List.mem_cons_of_mem _ hr)) (n := n - m) (by omega)
    have e : told srtd (row :: T) n = m :: told srtd T (n - m) := by
      show (let m := ((List.range (row.length + 1)).filter (fitB srtd row T n)).headD 0; m :: told srtd T (n - m)) = _
      rw [hf]; rfl
    rw [e]
    refine ⟨⟨by omega, i1⟩, by rw [List.sum_cons, i2]; omega, by rw [pre_cons, i3]; exact hfit.2, fun c o hc hp => ?_⟩
    cases c with
    | nil => exact o.elim
    | cons m' c =>
      obtain ⟨f1, f2⟩ := fit_of hs hd o hc hp
      have hm' : m' ∈ (List.range (row.length + 1)).filter (fitB srtd row T n) := List.mem_filter.mpr ⟨List.mem_range.mpr (Nat.lt_succ_of_le o.1), f1⟩
      have hle : m ≤ m' := by
        rw [hf] at hm'
        rcases List.mem_cons.mp hm' with h | h
        · exact Nat.le_of_eq h.symm
        · have hp2 : ((List.range (row.length + 1)).filter (fitB srtd row T n)).Pairwise (· < ·) := List.pairwise_lt_range.sublist List.filter_sublist
          rw [hf] at hp2
          exact Nat.le_of_lt ((List.pairwise_cons.mp hp2).1 m' h)
      rcases Nat.lt_or_ge m m' with z | z
      · exact .inl z
      · have : m' = m := by omega
        subst this
        rw [List.sum_cons] at hc
        exact .inr ⟨rfl, i4 c o.2 (by omega) f2⟩
/-- a night more never brings more in addition -/
theorem concave (T : List (List Nat)) {k : Nat} (hk : k + 2 ≤ T.flatten.length) : best srtd T (k + 2) + best srtd T k ≤ best srtd T (k + 1) + best srtd T (k + 1) := by
  obtain ⟨hD, hdd⟩ := hs T.flatten
  have hl := hD.length_eq
  have h1 : k + 1 < (srtd T.flatten).length := by omega
  have h0 : k < (srtd T.flatten).length := by omega
  have e2 : best srtd T (k + 2) = best srtd T (k + 1) + (srtd T.flatten)[k + 1] := by
    unfold best
    rw [List.take_succ_eq_append_getElem h1, List.sum_append]; simp
  have e1 : best srtd T (k + 1) = best srtd T k + (srtd T.flatten)[k] := by
    unfold best
    rw [List.take_succ_eq_append_getElem h0, List.sum_append]; simp
  have := List.pairwise_iff_getElem.mp hdd k (k + 1) h0 h1 (by omega)
  have : (srtd T.flatten)[k + 1] ≤ (srtd T.flatten)[k] := this
  omega
end
/-- all counts -/
def countsF : List (List Nat) → List (List Nat) → List (List Nat)
  | [], F => F
  | row :: T, F => countsF T (F.flatMap fun one => (List.range (row.length + 1)).map fun m => one ++ [m])
theorem okC_len : ∀ {T : List (List Nat)} {c : List Nat}, okC T c → c.length = T.length
  | [], [], _ => rfl
  | _ :: T, _ :: cs, h => by rw [List.length_cons, List.length_cons, okC_len h.2]
  | [], _ :: _, h => h.elim
  | _ :: _, [], h => h.elim
theorem counts_mem : ∀ {T : List (List Nat)} {F : List (List Nat)} {c : List Nat}, c ∈ countsF T F ↔ ∃ one ∈ F, ∃ cs, okC T cs ∧ c = one ++ cs
  | [], F, c => by
    constructor
    · intro h; exact ⟨c, h, [], trivial, by simp⟩
    · rintro ⟨one, h, cs, ho, rfl⟩
      cases cs with
      | nil => rw [List.append_nil]; exact h
      | cons _ _ => exact ho.elim
  | row :: T, F, c => by
    show c ∈ countsF T _ ↔ _
    rw [counts_mem]
    constructor
    · rintro ⟨one, h, cs, ho, rfl⟩
      obtain ⟨o, h1, h2⟩ := List.mem_flatMap.mp h
      obtain ⟨m, hm, rfl⟩ := List.mem_map.mp h2
      exact ⟨o, h1, m :: cs, ⟨Nat.le_of_lt_succ (List.mem_range.mp hm), ho⟩, by simp⟩
    · rintro ⟨one, h, cs, ho, rfl⟩
      cases cs with
      | nil => exact ho.elim
      | cons m cs => exact ⟨one ++ [m], List.mem_flatMap.mpr ⟨one, h, List.mem_map.mpr ⟨m, List.mem_range.mpr (Nat.lt_succ_of_le ho.1), rfl⟩⟩, cs, ho.2, by simp⟩
end K52

namespace K52
open PySem PySem.Spec PyProof.Rows L2 VL
/-! ### takings judged -/
theorem range_pred {x : Slots} {st : Store} {n : Nat} {f : FE} (h : f x st = .ok (.p (.int (n : Int)), st)) (hn : n ≤ 1000) : iRange1 (vBin subP f (vC (.int 1))) x st = .ok (⟨(List.range (n - 1)).map natD, none⟩, st) := by
  have q1 : -(2 ^ 62 : Int) ≤ (n : Int) - 1 := by omega
  have q2 : (n : Int) - 1 < 2 ^ 62 := by omega
  have := ei_range1 (f := vBin subP f (vC (.int 1))) (ρ := x) (st := st) (j := (n : Int) - 1) (ev_bin h ev_c rfl rfl (VL.op_sub _ _)) ⟨q1, q2⟩
  rw [this]
  have e : rangeD 0 ((n : Int) - 1) = (List.range (n - 1)).map natD := by
    unfold rangeD
    rw [show ((n : Int) - 1 - 0).toNat = n - 1 by omega]
    refine List.map_congr_left fun k _ => ?_
    show PyData.int _ = PyData.int _
    congr 1; omega
  rw [e]
theorem len_t (l : List PyData) : lenP (.tuple l) = .ok (.int (l.length : Int)) := rfl
theorem ixV {st : Store} {v : List Nat} {k : Nat} (h : k < v.length) : ixD st (.p (rowD v)) (.p (natD k)) = .ok (natD (v.getD k 0)) := ixT_p (atI_map natD 0 h)
abbrev AT (x : PyData) (x1 x2 x3 : Option Vd) : Slots := [some (.p x), x1, x2, x3]
section
variable {x : PyData} {st : Store}
theorem b_not {d : PyData} (h : isiP "tuple" d = .ok (.bool false)) : m_are_takings_b1 (AT x (some (.p d)) none none) st = .ok (.rt (.p (.bool false)), AT x (some (.p d)) none none, st) :=
  es_seq (es_if (t := true) (ev_or (ev_not (ev_tru (ev_un (ev_var rfl) rfl h) rfl (tru_bool _))) (IfK.t rfl)) (IfK.t (es_ret ev_c))) SeqK.rt
theorem b_t {l : List PyData} : vOr (tNot (vTru (vUn (isiP "tuple") (vVar 1)))) (asB (vBin gtP (vCall (one lenP) (aCons (vVar 1) (aNil))) (vC (.int 8)))) (AT x (some (.p (.tuple l))) none none) st = .ok (decide (8 < l.length), st) :=
  ev_or (t := false) (ev_not (ev_tru (ev_un (ev_var rfl) rfl (isi_tt _)) rfl (tru_bool _))) (IfK.f (ev_asB (ev_bin (ev_call (ea_cons (ev_var rfl) ea_nil) (pkL_cons rfl pkL_nil) (len_t l)) ev_c rfl rfl (gtN l.length 8))))
theorem b_long {l : List PyData} (h : 8 < l.length) : m_are_takings_b1 (AT x (some (.p (.tuple l))) none none) st = .ok (.rt (.p (.bool false)), AT x (some (.p (.tuple l))) none none, st) :=
  es_seq (es_if (t := true) (rT b_t (decide_eq_true h)) (IfK.t (es_ret ev_c))) SeqK.rt
theorem b_all {l : List PyData} (hl : ∀ y ∈ l, numOk y) : vGb false (iSeq (vVar 1)) (gSet 2) (fYes) (m_are_takings_g1) [2] (AT x (some (.p (.tuple l))) none none) st = .ok (.p (.bool (l.all (numB 0 1000))), st) :=
  ev_allA (cc := id) (src := l) (ρw := AT x (some (.p (.tuple l))) none none) (g := fun y => AT x (some (.p (.tuple l))) (some (.p y)) none) (ei_seq (ev_var rfl) (by rw [List.map_id]; rfl)) rfl (fun _ _ => rfl) (fun y hy => ev_def (ea_cons (ev_var rfl) (ea_cons ev_c (ea_cons ev_c ea_nil))) rfl (num_in (hl y hy) _ _ st))
theorem b_num {l : List PyData} (hl : ∀ y ∈ l, numOk y) (h8 : l.length ≤ 8) (h : l.all (numB 0 1000) = false) : m_are_takings_b1 (AT x (some (.p (.tuple l))) none none) st = .ok (.rt (.p (.bool false)), AT x (some (.p (.tuple l))) none none, st) := by
  have h2 := b_all (x := x) (st := st) hl
  rw [h] at h2
  exact es_seq (es_if (t := false) (rT b_t (decide_eq_false (by omega))) (IfK.f es_nil)) (SeqK.nx (es_seq (es_if (t := true) (ev_not (t := false) (ev_tru h2 rfl (tru_bool _))) (IfK.t (es_ret ev_c))) SeqK.rt))
def dscB (v : List Nat) : Bool := (List.range (v.length - 1)).all fun k => decide (v.getD (k + 1) 0 ≤ v.getD k 0)
theorem b_row {v : List Nat} (h8 : v.length ≤ 8) (hm : ∀ y ∈ v, y ≤ 1000) : m_are_takings_b1 (AT x (some (.p (rowD v))) none none) st = if dscB v = true then .ok (.nx, AT x (some (.p (rowD v))) none none, st) else .ok (.rt (.p (.bool false)), AT x (some (.p (rowD v))) none none, st) := by
  have h2 := b_all (x := x) (st := st) (l := v.map natD) (numOk_nat v)
  have hall : (v.map natD).all (numB 0 1000) = true := by
    rw [List.all_map, List.all_eq_true]
    intro y hy
    have := hm y hy
    show decide (0 ≤ (y : Int) ∧ (y : Int) ≤ 1000) = true
    rw [decide_eq_true_iff]; omega
  rw [hall] at h2
  have h3 : vGb false (iRange1 (vBin subP (vCall (one lenP) (aCons (vVar 1) (aNil))) (vC (.int 1)))) (gSet 3) (fYes) (m_are_takings_g2) [3] (AT x (some (.p (rowD v))) none none) st = .ok (.p (.bool (dscB v)), st) :=
    ev_allA (cc := natD) (src := List.range (v.length - 1)) (bb := fun k => decide (v.getD (k + 1) 0 ≤ v.getD k 0)) (ρw := AT x (some (.p (rowD v))) none none) (g := fun k => AT x (some (.p (rowD v))) none (some (.p (natD k)))) (range_pred (ev_call (ea_cons (ev_var rfl) ea_nil) (pkL_cons rfl pkL_nil) (len_mapT _ _)) (by omega)) rfl (fun _ _ => rfl) (fun k hk => by
      have hk := List.mem_range.mp hk
      exact ev_bin (ev_binD (ev_var rfl) (ev_var rfl) (ixV (by omega))) (ev_binD (ev_var rfl) (ev_bin (ev_var rfl) ev_c rfl rfl (addN k 1)) (ixV (by omega))) rfl rfl (geN _ _))
  refine es_seq (es_if (t := false) (rT b_t (decide_eq_false (by rw [List.length_map]; omega))) (IfK.f es_nil)) (SeqK.nx (es_seq (es_if (t := false) (ev_not (t := true) (ev_tru h2 rfl (tru_bool _))) (IfK.f es_nil)) (SeqK.nx ?_)))
  cases hb : dscB v with
  | true =>
    rw [hb] at h3
    rw [if_pos rfl]
    exact es_if (t := false) (ev_not (t := true) (ev_tru h3 rfl (tru_bool _))) (IfK.f es_nil)
  | false =>
    rw [hb] at h3
    rw [if_neg Bool.false_ne_true]
    exact es_if (t := true) (ev_not (t := false) (ev_tru h3 rfl (tru_bool _))) (IfK.t (es_ret ev_c))
theorem dscB_ok {v : List Nat} (h : Dsc v) : dscB v = true := by
  unfold dscB
  rw [List.all_eq_true]
  intro k hk
  have hk := List.mem_range.mp hk
  refine decide_eq_true ?_
  rw [List.getD_eq_getElem?_getD, List.getD_eq_getElem?_getD, List.getElem?_eq_getElem (by omega), List.getElem?_eq_getElem (by omega)]
  exact List.pairwise_iff_getElem.mp h k (k + 1) (by omega) (by omega) (Nat.lt_succ_self k)
noncomputable abbrev at1 : FT := vOr (tNot (vTru (vUn (isiP "tuple") (vVar 0)))) (tNot (asB (vChain leP leP (vC (.int 1)) (vCall (one lenP) (aCons (vVar 0) (aNil))) (vC (.int 6)))))
theorem at_t {x : PyData} (h : at1 (AT x none none none) st = .ok (true, st)) : m_are_takings [.p x] st = .ok (.p (.bool false), st) := by
  unfold m_are_takings
  exact ed_ent (EntK.c (EntK.n (EntK.n (EntK.n EntK.z)))) rfl (es_seq (es_if h (IfK.t (es_ret ev_c))) SeqK.rt) (ed_rtF' rfl)
theorem at_not {x : PyData} (h : isiP "tuple" x = .ok (.bool false)) : m_are_takings [.p x] st = .ok (.p (.bool false), st) :=
  at_t (ev_or (ev_not (ev_tru (ev_un (ev_var rfl) rfl h) rfl (tru_bool _))) (IfK.t rfl))
theorem at_1 {l : List PyData} : at1 (AT (.tuple l) none none none) st = .ok (!(decide (1 ≤ l.length) && decide (l.length ≤ 6)), st) :=
  ev_or (t := false) (ev_not (ev_tru (ev_un (ev_var rfl) rfl (isi_tt _)) rfl (tru_bool _))) (IfK.f (ev_not (ev_asB (ev_chainG ev_c (ev_call (ea_cons (ev_var rfl) ea_nil) (pkL_cons rfl pkL_nil) (len_t l)) rfl rfl (leN 1 l.length) ev_c rfl (leN l.length 6)))))
theorem at_len {l : List PyData} (h : l.length = 0 ∨ 6 < l.length) : m_are_takings [.p (.tuple l)] st = .ok (.p (.bool false), st) := at_t (rT at_1 (by
  rcases h with h | h
  · rw [decide_eq_false (show ¬ 1 ≤ l.length by omega)]; rfl
  · rw [decide_eq_false (show ¬ l.length ≤ 6 by omega), Bool.and_false]; rfl))
theorem at_one {d : PyData} {ρ' : Slots} (h : m_are_takings_b1 (AT (.tuple [d]) (some (.p d)) none none) st = .ok (.rt (.p (.bool false)), ρ', st)) : m_are_takings [.p (.tuple [d])] st = .ok (.p (.bool false), st) := by
  have hf : forG ⟨[d], none⟩ (gSet 1) m_are_takings_b1 [d] (AT (.tuple [d]) none none none) st = .ok (.rt (.p (.bool false)), ρ', st) := by
    rw [forG_cons]
    show (R.ok (AT (.tuple [d]) (some (.p d)) none none) >>= _) = _
    rw [R.ok_bind, h]; rfl
  unfold m_are_takings
  exact ed_ent (EntK.c (EntK.n (EntK.n (EntK.n EntK.z)))) rfl (es_seq (es_if (t := false) at_1 (IfK.f es_nil)) (SeqK.nx (es_seq (es_for (ei_seq (ev_var rfl) rfl) hf) SeqK.rt))) (ed_rtF' rfl)
theorem at_ok {T : Tk} (hT : TOk T) : m_are_takings [.p (TkD T)] st = .ok (.p (.bool true), st) := by
  obtain ⟨ρ', st', e, y1, rfl, hst⟩ := forG_ix (src := T.map rowD) (gt := gSet 1) (body := m_are_takings_b1) (ds := T.map rowD) (st := st) (ρ := AT (TkD T) none none none)
    (fun i ρ s => ∃ y1, ρ = AT (TkD T) y1 none none ∧ s = st)
    (fun i d ρ s hi ⟨y1, hρ, hs⟩ => by
      subst hρ; subst hs
      rw [List.getElem?_map] at hi
      obtain ⟨r, hr, rfl⟩ := Option.map_eq_some_iff.mp hi
      have hm := List.mem_of_getElem? hr
      have := b_row (x := TkD T) (st := s) (hT.ln r hm) (hT.mx r hm)
      rw [dscB_ok (hT.ds r hm), if_pos rfl] at this
      exact ⟨_, _, _, rfl, .inl this, _, rfl, rfl⟩)
    ⟨_, rfl, rfl⟩
  rw [hst] at e
  have h1 := hT.lo
  have h2 := hT.hi
  unfold m_are_takings
  exact ed_ent (EntK.c (EntK.n (EntK.n (EntK.n EntK.z)))) rfl (es_seq (es_if (t := false) (rT at_1 (by rw [List.length_map, decide_eq_true h1, decide_eq_true h2]; rfl)) (IfK.f es_nil)) (SeqK.nx (es_seq (es_for (ei_seq (ev_var rfl) rfl) e) (SeqK.nx (es_ret ev_c))))) (ed_rtF' rfl)
end
/-- values that are none -/
def oddT (T : Tk) : List PyData := [.none, .tuple [], .list (T.map rowD), .tuple (List.replicate 7 (.tuple [])), .tuple [.none], .tuple [.list [.int 5]], .tuple [.tuple [.int 1, .int 2]], .tuple [.tuple [.int 1001]], .tuple [.tuple [.int (-1)]], .tuple [.tuple [.bool true]], .tuple [.tuple [.none]], .tuple [.tuple (List.replicate 9 (.int 1))], .int 5]
theorem odd_tak {T : Tk} {st : Store} : ∀ d ∈ oddT T, m_are_takings [.p d] st = .ok (.p (.bool false), st) := by
  intro d hd
  unfold oddT at hd
  simp only [List.mem_cons, List.not_mem_nil, or_false] at hd
  have one' : ∀ {d : PyData}, numOk d → ∀ y ∈ [d], numOk y := fun h y hy => by rw [List.mem_singleton.mp hy]; exact h
  have hi : ∀ i : Int, numOk (.int i) := fun i => .inr ⟨i, rfl⟩
  rcases hd with rfl | rfl | rfl | rfl | rfl | rfl | rfl | rfl | rfl | rfl | rfl | rfl | rfl
  · exact at_not isi_nt
  · exact at_len (.inl rfl)
  · exact at_not (isi_lt _)
  · exact at_len (.inr (by decide))
  · exact at_one (b_not isi_nt)
  · exact at_one (b_not (isi_lt _))
  · have := b_row (x := .tuple [rowD [1, 2]]) (st := st) (v := [1, 2]) (by decide) (by decide)
    rw [show dscB [1, 2] = false by decide, if_neg Bool.false_ne_true] at this
    exact at_one this
  · exact at_one (b_num (one' (hi _)) (by decide) rfl)
  · exact at_one (b_num (one' (hi _)) (by decide) rfl)
  · exact at_one (b_num (one' (.inl rfl)) (by decide) rfl)
  · exact at_one (b_num (one' (.inl rfl)) (by decide) rfl)
  · exact at_one (b_long (by decide))
  · exact at_not (isi_it _)
/-! ### sums -/
theorem nsum (l : List Nat) : (l.map fun (k : Nat) => (k : Int)).sum = (l.sum : Int) := by
  induction l with
  | nil => rfl
  | cons a l ih => rw [List.map_cons, List.sum_cons, List.sum_cons, ih]; omega
theorem sumP_nats (l : List Nat) : sumP (.list (l.map natD)) = .ok (natD l.sum) := by rw [natI, sumP_lst, nsum]
end K52

namespace K52
open PySem PySem.Spec PyProof.Rows L2 VL
theorem ev_defX {n : Nat} {m : FM} {fa : FA} {as : List Vd} {d : Vd} {ρ : Slots} {st st1 st2 : Store} (h1 : fa ρ st = .ok (as, st1)) (hl : as.length = n) (h : m as st1 = .ok (d, st2)) : vDefX n m fa ρ st = .ok (d, st2) := by
  unfold vDefX
  rw [h1, R.ok_bind, if_pos hl, h]
theorem ev_defXx {n : Nat} {m : FM} {fa : FA} {as : List Vd} {x : Str} {ρ : Slots} {st st1 st2 : Store} (h1 : fa ρ st = .ok (as, st1)) (hl : as.length = n) (h : m as st1 = .exc x st2) : vDefX n m fa ρ st = .exc x st2 := by
  unfold vDefX
  rw [h1, R.ok_bind, if_pos hl, h]
/-! ### numbers of nights -/
def room (T : Tk) : Nat := T.flatten.length
theorem lens_sum (T : Tk) : (T.map List.length).sum = room T := by
  unfold room; rw [List.length_flatten]
abbrev CS (T : Tk) (x : PyData) (x2 : Option Vd) : Slots := [some (.p (TkD T)), some (.p x), x2]
theorem lens_c {T : Tk} {ρ : Slots} {st : Store} {i j : Nat} {fe : FE} (hi : ρ[i]? = some (some (.p (TkD T)))) (hj : j < ρ.length) (hl : T.length ≤ 1000) (hf : ∀ r : List Nat, fe (ρ.set j (some (.p (rowD r)))) st = .ok (.p (.int (r.length : Int)), st)) : vCall (one sumP) (aCons (vFz (nLc (iSeq (vVar i)) (gSet j) (fYes) fe [j])) (aNil)) ρ st = .ok (.p (natD (room T)), st) := by
  have hc : nLc (iSeq (vVar i)) (gSet j) (fYes) fe [j] ρ st = .ok (.lst ((T.map List.length).map natD), st) := by
    have := en_lcA (fi := iSeq (vVar i)) (gt := gSet j) (fe := fe) (vs := [j]) (cc := rowD) (src := T) (F := fun r => natD r.length) (ρ := ρ) (ρw := ρ.set j none) (st := st) (st1 := st) (g := fun r => ρ.set j (some (.p (rowD r)))) (ei_seq (ev_var hi) rfl) rfl (fun a _ => by
      show R.ok ((ρ.set j none).set j _) = _
      rw [List.set_set]) (fun r _ => hf r) (by rw [LIM_eq]; omega)
    rw [List.map_map]; exact this
  exact ev_call (ea_cons (ev_fzL hc) ea_nil) (pkL_cons rfl pkL_nil) ((one_ap _ _).trans ((sumP_nats _).trans (by rw [lens_sum])))
theorem check_t {T : Tk} (hl : T.length ≤ 1000) {x : PyData} (hx : numOk x) (st : Store) : tNot (vTru (vDef 3 m_is_number (aCons (vVar 1) (aCons (vC (.int 0)) (aCons (vCall (one sumP) (aCons (vFz (nLc (iSeq (vVar 0)) (gSet 2) (fYes) (m_check_c1) [2])) (aNil))) (aNil)))))) (CS T x none) st = .ok (!numB 0 (room T) x, st) :=
  ev_not (ev_tru (ev_def (ea_cons (ev_var rfl) (ea_cons ev_c (ea_cons (lens_c (i := 0) (j := 2) rfl (by show 2 < 3; decide) hl fun r => ev_call (ea_cons (ev_var rfl) ea_nil) (pkL_cons rfl pkL_nil) (len_mapT _ _)) ea_nil))) rfl (num_in hx 0 (room T) st)) rfl (tru_bool _))
theorem check_ok {T : Tk} (hl : T.length ≤ 1000) {n : Nat} (hn : n ≤ room T) (st : Store) : m_check [.p (TkD T), .p (natD n)] st = .ok (.p .none, st) := by
  have ht := check_t hl (x := natD n) (.inr ⟨_, rfl⟩) st
  rw [show numB 0 (room T) (natD n) = true by
    rw [show natD n = .int (n : Int) from rfl, numB_i]; exact decide_eq_true (by omega)] at ht
  unfold m_check
  exact ed_ent (EntK.c (EntK.c (EntK.n EntK.z))) rfl (es_if (t := false) ht (IfK.f es_nil)) (ed_nxF' rfl)
theorem check_no {T : Tk} (hl : T.length ≤ 1000) {x : PyData} (hx : numOk x) (h : numB 0 (room T) x = false) (st : Store) : m_check [.p (TkD T), .p x] st = .exc ("OutOfRange" : Str) st := by
  have ht := check_t hl hx st
  rw [h] at ht
  unfold m_check
  refine ed_ent (o := .ex ("OutOfRange" : Str)) (EntK.c (EntK.c (EntK.n EntK.z))) rfl (es_if (t := true) ht (IfK.t rfl)) ?_
  show R.exc _ (List.take st.length st) = _
  rw [List.take_length]
/-! ### best sums -/
abbrev bst (T : Tk) (n : Nat) : Nat := best dsc T n
theorem flat_len {T : Tk} (h : ∀ r ∈ T, r.length ≤ 8) : room T ≤ 8 * T.length := by
  unfold room
  induction T with
  | nil => simp
  | cons a r ih =>
    rw [List.flatten_cons, List.length_append, List.length_cons]
    have h1 := ih fun x hx => h x (List.mem_cons_of_mem _ hx)
    have h2 := h a List.mem_cons_self
    omega
theorem flat_c {T : Tk} (hl : T.length ≤ 1000) (h8 : ∀ r ∈ T, r.length ≤ 8) {x1 : Option Vd} (st : Store) : nLc2 (iSeq (vVar 0)) (gSet 2) (fYes) (m_best_sum_i1) (gSet 3) (fYes) (m_best_sum_c1) [2, 3] [3] [some (.p (TkD T)), x1, none, none] st = .ok (.lst (T.flatten.map natD), st) := by
  have hfl : (T.flatMap fun r => r.map natD) = T.flatten.map natD := by rw [List.map_flatten, List.flatMap_def]
  have h := en_lc2A (src := T) (fi := iSeq (vVar 0)) (gt := gSet 2) (fi1 := m_best_sum_i1) (gt1 := gSet 3) (tt1 := fYes) (fe := m_best_sum_c1) (vs := [2, 3]) (vs1 := [3]) (ρ := [some (.p (TkD T)), x1, none, none]) (ρw := [some (.p (TkD T)), x1, none, none]) (st := st) (st1 := st) (cc := rowD) (g := fun r => [some (.p (TkD T)), x1, some (.p (rowD r)), none]) (G := fun r => r.map natD) (ei_seq (ev_var rfl) rfl) rfl (fun _ _ => rfl) (fun r hr => ⟨r.map natD, ei_seq (ev_var rfl) rfl, by
    exact lcG_mapA natD natD (ds := r) (fun a _ => ⟨[some (.p (TkD T)), x1, some (.p (rowD r)), some (.p (natD a))], rfl, ev_var rfl⟩)⟩) ?_
  · rw [h, hfl]
  · rw [hfl, List.length_map, LIM_eq]
    have := flat_len h8
    unfold room at this
    omega
theorem sl_take (l : List Nat) (n : Nat) : slP (.list (l.map natD)) none (some (n : Int)) = .ok (.list ((l.take n).map natD)) := by
  rw [slP_to _ _ (by omega), Int.toNat_natCast, List.map_take]
theorem best_ok {T : Tk} (hl : T.length ≤ 1000) (h8 : ∀ r ∈ T, r.length ≤ 8) {n : Nat} (hn : n ≤ room T) (st : Store) : m_best_sum [.p (TkD T), .p (natD n)] st = .ok (.p (natD (bst T n)), st) := by
  unfold m_best_sum
  refine ed_ent (EntK.c (EntK.c (EntK.n (EntK.n EntK.z)))) rfl (es_seq (es_expr (ev_defX (ea_cons (ev_var rfl) (ea_cons (ev_var rfl) ea_nil)) rfl (check_ok hl hn st))) (SeqK.nx (es_ret (ev_call (ea_cons (ev_sl (x := .list ((dsc T.flatten).map natD)) (v_desc (ev_fzL (flat_c hl h8 st))) eo_none (eo_some (ev_var rfl)) rfl (sl_take _ n)) ea_nil) (pkL_cons rfl pkL_nil) ((one_ap _ _).trans (sumP_nats ((dsc T.flatten).take n))))))) (ed_rtF' rfl)
end K52

namespace K52
open PySem PySem.Spec PyProof.Rows L2 VL
/-! ### best counts -/
abbrev BC (T : Tk) (n : Nat) (x2 x3 x4 x5 x6 x7 x8 x9 x10 : Option Vd) : Slots := [some (.p (TkD T)), some (.p (natD n)), x2, x3, x4, x5, x6, x7, x8, x9, x10, none, none]
theorem sumT_nats (l : List Nat) : sumP (.tuple (l.map natD)) = .ok (natD l.sum) := by rw [natI, sumP_tup, nsum]
theorem room_cons (r : List Nat) (T : Tk) : room (r :: T) = r.length + room T := by unfold room; rw [List.flatten_cons, List.length_append]
theorem subN {a b : Nat} (h : b ≤ a) : subP (natD a) (natD b) = .ok (natD (a - b)) := by
  rw [show subP (natD a) (natD b) = subP (.int (a : Int)) (.int (b : Int)) from rfl, VL.op_sub]
  show R.ok (PyData.int _) = R.ok (PyData.int _)
  congr 2; omega
theorem bc_b1 {T : Tk} (hT : TOk T) {n i left : Nat} (hi : i < T.length) (hl : left ≤ room (T.drop i)) {M : List Nat} (hM : M.length ≤ 1000) {x6 x7 x8 x9 x10 : Option Vd} (st : Store) :
    ∃ y6 y7 y8 y9 y10 m, m_best_counts_b1 (BC T n (some (.loc st.length)) (some (.p (natD left))) (some (.p (natD i))) (some (.p (rowD (T.getD i [])))) x6 x7 x8 x9 x10) (st ++ [.lst (M.map natD)]) = .ok (.nx, BC T n (some (.loc st.length)) (some (.p (natD (left - m)))) (some (.p (natD i))) (some (.p (rowD (T.getD i [])))) y6 y7 y8 y9 y10, st ++ [.lst ((M ++ [m]).map natD)]) ∧ told dsc (T.drop i) left = m :: told dsc (T.drop (i + 1)) (left - m) ∧ left - m ≤ room (T.drop (i + 1)) := by
  obtain ⟨row, hrow⟩ : ∃ row, row = T.getD i [] := ⟨_, rfl⟩
  obtain ⟨B, hB⟩ : ∃ B, B = T.drop (i + 1) := ⟨_, rfl⟩
  have hdr : T.drop i = row :: B := by rw [hrow, hB, List.getD_eq_getElem?_getD, List.getElem?_eq_getElem hi]; exact List.drop_eq_getElem_cons hi
  have hsub : ∀ r ∈ row :: B, r ∈ T := fun r hr => List.drop_subset i T (by rw [hdr]; exact hr)
  have hds : ∀ r ∈ row :: B, Dsc r := fun r hr => hT.ds r (hsub r hr)
  have hB8 : ∀ r ∈ B, r.length ≤ 8 := fun r hr => hT.ln r (hsub r (List.mem_cons_of_mem _ hr))
  have hD8 : ∀ r ∈ row :: B, r.length ≤ 8 := fun r hr => hT.ln r (hsub r hr)
  have hrl : row.length ≤ 8 := hD8 row List.mem_cons_self
  have hTl := hT.hi
  have hBl : B.length ≤ 6 := by rw [hB, List.length_drop]; omega
  rw [← hrow]
  rw [hdr] at hl ⊢
  rw [← hB]
  obtain ⟨m, r, hf⟩ := fits_ne dsc_ok hds (n := left) hl
  have hmf : m ∈ (List.range (row.length + 1)).filter (fitB dsc row B left) := by rw [hf]; exact List.mem_cons_self
  obtain ⟨hm1, hm2⟩ := List.mem_filter.mp hmf
  have hm1 := List.mem_range.mp hm1
  have hfit := hm2
  unfold fitB at hfit
  rw [Bool.and_eq_true, decide_eq_true_iff, decide_eq_true_iff] at hfit
  have hrm : left - m ≤ room B := by unfold room; omega
  have htold : told dsc (row :: B) left = m :: told dsc B (left - m) := by
    show (let m := ((List.range (row.length + 1)).filter (fitB dsc row B left)).headD 0; m :: told dsc B (left - m)) = _
    rw [hf]; rfl
  obtain ⟨Z, hZ⟩ : ∃ Z, Z = st ++ [Ob.lst (M.map natD)] := ⟨_, rfl⟩
  have hgZ : Z[st.length]? = some (.lst (M.map natD)) := by rw [hZ]; exact getM _ _
  rw [← hZ]
  -- due
  have hdrop : slP (TkD T) (some (i : Int)) none = .ok (TkD (row :: B)) := by rw [← hdr]; exact slT_fromN
  have hdrop1 : slP (TkD T) (some ((i + 1 : Nat) : Int)) none = .ok (TkD B) := by rw [hB]; exact slT_fromN
  obtain ⟨P6, hP6⟩ : ∃ P6 : Option Vd, P6 = some (.p (natD (bst (row :: B) left))) := ⟨_, rfl⟩
  have s6 : sSet 6 (vDefX 2 m_best_sum (aCons (vSl (vVar 0) (oSome (vVar 4)) (oNone)) (aCons (vVar 3) (aNil)))) (BC T n (some (.loc st.length)) (some (.p (natD left))) (some (.p (natD i))) (some (.p (rowD row))) x6 x7 x8 x9 x10) Z = .ok (.nx, BC T n (some (.loc st.length)) (some (.p (natD left))) (some (.p (natD i))) (some (.p (rowD row))) P6 x7 x8 x9 x10, Z) :=
    es_set (ev_defX (ea_cons (ev_sl (ev_var rfl) (eo_some (ev_var rfl)) eo_none rfl hdrop) (ea_cons (ev_var rfl) ea_nil)) rfl (best_ok (by rw [List.length_cons]; omega) hD8 hl Z)) (by rw [hP6]; rfl)
  obtain ⟨P7, hP7⟩ : ∃ P7 : Option Vd, P7 = some (.p (TkD B)) := ⟨_, rfl⟩
  have s7 : sSet 7 (vSl (vVar 0) (oSome (vBin addP (vVar 4) (vC (.int 1)))) (oNone)) (BC T n (some (.loc st.length)) (some (.p (natD left))) (some (.p (natD i))) (some (.p (rowD row))) P6 x7 x8 x9 x10) Z = .ok (.nx, BC T n (some (.loc st.length)) (some (.p (natD left))) (some (.p (natD i))) (some (.p (rowD row))) P6 P7 x8 x9 x10, Z) :=
    es_set (ev_sl (ev_var rfl) (eo_some (ev_bin (ev_var rfl) ev_c rfl rfl (addN i 1))) eo_none rfl hdrop1) (by rw [hP7]; rfl)
  obtain ⟨P8, hP8⟩ : ∃ P8 : Option Vd, P8 = some (.p (natD (room B))) := ⟨_, rfl⟩
  have s8 : sSet 8 (vCall (one sumP) (aCons (vFz (nLc (iSeq (vVar 7)) (gSet 11) (fYes) (m_best_counts_c1) [11])) (aNil))) (BC T n (some (.loc st.length)) (some (.p (natD left))) (some (.p (natD i))) (some (.p (rowD row))) P6 P7 x8 x9 x10) Z = .ok (.nx, BC T n (some (.loc st.length)) (some (.p (natD left))) (some (.p (natD i))) (some (.p (rowD row))) P6 P7 P8 x9 x10, Z) :=
    es_set (lens_c (T := B) (i := 7) (j := 11) (by rw [hP7]; rfl) (by show 11 < 13; decide) (by omega) fun r => ev_call (ea_cons (ev_var rfl) ea_nil) (pkL_cons rfl pkL_nil) (len_mapT _ _)) (by rw [hP8]; rfl)
  -- fits
  obtain ⟨G, hG⟩ : ∃ G, G = (List.range (row.length + 1)).filter fun m => decide (m ≤ left) && decide (left ≤ m + room B) := ⟨_, rfl⟩
  obtain ⟨ρ8, hρ8⟩ : ∃ ρ8, ρ8 = BC T n (some (.loc st.length)) (some (.p (natD left))) (some (.p (natD i))) (some (.p (rowD row))) P6 P7 P8 x9 none := ⟨_, rfl⟩
  have c9 : nLc (iRange1 (vBin addP (vCall (one lenP) (aCons (vVar 5) (aNil))) (vC (.int 1)))) (gSet 10) (m_best_counts_t1) (m_best_counts_c2) [10] (BC T n (some (.loc st.length)) (some (.p (natD left))) (some (.p (natD i))) (some (.p (rowD row))) P6 P7 P8 x9 x10) Z = .ok (.lst (G.map natD), Z) := by
    rw [hG]
    exact en_lctA (cc := natD) (src := List.range (row.length + 1)) (F := natD) (bb := fun m => decide (m ≤ left) && decide (left ≤ m + room B)) (ρw := ρ8) (g := fun m => ρ8.set 10 (some (.p (natD m)))) (ei_rangeN (j := row.length + 1) (ev_bin (ev_call (ea_cons (ev_var rfl) ea_nil) (pkL_cons rfl pkL_nil) (len_mapT _ _)) ev_c rfl rfl (addN row.length 1)) (by omega)) (by rw [hρ8]; rfl) (fun _ _ => rfl) (fun m _ => ev_asB (ev_chainG (by rw [hρ8]; exact ev_var rfl) (by rw [hρ8]; exact ev_var rfl) rfl rfl (leN _ _) (ev_bin (by rw [hρ8]; exact ev_var rfl) (by rw [hρ8, hP8]; exact ev_var rfl) rfl rfl (addN m (room B))) rfl (leN _ _))) (fun m _ _ => by rw [hρ8]; exact ev_var rfl) (by rw [List.length_range, LIM_eq]; omega)
  have hGl : G.length ≤ 9 := by
    rw [hG]
    have := List.length_filter_le (fun m => decide (m ≤ left) && decide (left ≤ m + room B)) (List.range (row.length + 1))
    rw [List.length_range] at this; omega
  obtain ⟨P9, hP9⟩ : ∃ P9 : Option Vd, P9 = some (.p (.list (G.map natD))) := ⟨_, rfl⟩
  have s9 : sSet 9 (vFz (nLc (iRange1 (vBin addP (vCall (one lenP) (aCons (vVar 5) (aNil))) (vC (.int 1)))) (gSet 10) (m_best_counts_t1) (m_best_counts_c2) [10])) (BC T n (some (.loc st.length)) (some (.p (natD left))) (some (.p (natD i))) (some (.p (rowD row))) P6 P7 P8 x9 x10) Z = .ok (.nx, BC T n (some (.loc st.length)) (some (.p (natD left))) (some (.p (natD i))) (some (.p (rowD row))) P6 P7 P8 P9 x10, Z) := es_set (ev_fzL c9) (by rw [hP9]; rfl)
  obtain ⟨ρ9, hρ9⟩ : ∃ ρ9, ρ9 = BC T n (some (.loc st.length)) (some (.p (natD left))) (some (.p (natD i))) (some (.p (rowD row))) P6 P7 P8 P9 x10 := ⟨_, rfl⟩
  have hmem : ∀ m ∈ G, m ≤ left ∧ left ≤ m + room B ∧ m ≤ row.length := fun m hm => by
    rw [hG] at hm
    obtain ⟨h1, h2⟩ := List.mem_filter.mp hm
    rw [Bool.and_eq_true, decide_eq_true_iff, decide_eq_true_iff] at h2
    have := List.mem_range.mp h1
    exact ⟨h2.1, h2.2, by omega⟩
  have c10 : nLc (iSeq (vVar 9)) (gSet 12) (m_best_counts_t2) (m_best_counts_c3) [12] ρ9 Z = .ok (.lst ((m :: r).map natD), Z) := by
    have := en_lctA (fi := iSeq (vVar 9)) (gt := gSet 12) (tt := m_best_counts_t2) (fe := m_best_counts_c3) (vs := [12]) (cc := natD) (src := G) (F := natD) (bb := fun m => decide ((row.take m).sum + bst B (left - m) = bst (row :: B) left)) (ρ := ρ9) (ρw := ρ9) (st := Z) (st1 := Z) (g := fun m => ρ9.set 12 (some (.p (natD m)))) (ei_seq (ev_var (by rw [hρ9, hP9]; rfl)) rfl) (by rw [hρ9]; rfl) (fun _ _ => rfl) (fun m hm => by
      obtain ⟨h1, h2, h3⟩ := hmem m hm
      have e := eqI false ((row.take m).sum + bst B (left - m)) (bst (row :: B) left)
      rw [Bool.bne_false] at e
      exact ev_asB (ev_bin (ev_bin (ev_call (ea_cons (ev_sl (by rw [hρ9]; exact ev_var rfl) eo_none (eo_some (by rw [hρ9]; exact ev_var rfl)) rfl (slT_toN (c := natD) (xs := row) (i := m))) ea_nil) (pkL_cons rfl pkL_nil) ((one_ap _ _).trans (sumT_nats _))) (ev_def (ea_cons (by rw [hρ9, hP7]; exact ev_var rfl) (ea_cons (ev_bin (by rw [hρ9]; exact ev_var rfl) (by rw [hρ9]; exact ev_var rfl) rfl rfl (subN h1)) ea_nil)) rfl (dropX_ok (best_ok (by omega) hB8 (by omega) Z))) rfl rfl (addN _ _)) (by rw [hρ9, hP6]; exact ev_var rfl) rfl rfl e)) (fun m _ _ => by rw [hρ9]; exact ev_var rfl) (by rw [LIM_eq]; omega)
    rw [this]
    have hGf : G.filter (fun m => decide ((row.take m).sum + bst B (left - m) = bst (row :: B) left)) = m :: r := by
      rw [← hf, hG, List.filter_filter]
      refine List.filter_congr fun k _ => ?_
      unfold fitB
      rw [Bool.and_comm, Bool.decide_and]; rfl
    rw [hGf]
  have s10 : sSet 10 (vBinD ixD (vFz (nLc (iSeq (vVar 9)) (gSet 12) (m_best_counts_t2) (m_best_counts_c3) [12])) (vC (.int 0))) ρ9 Z = .ok (.nx, BC T n (some (.loc st.length)) (some (.p (natD left))) (some (.p (natD i))) (some (.p (rowD row))) P6 P7 P8 P9 (some (.p (natD m))), Z) :=
    es_set (ev_binD (ev_fzL c10) ev_c (ixN_p (atI_map natD 0 (l := m :: r) (i := 0) (by simp)))) (by rw [hρ9]; rfl)
  have happ : mAppend Z (.loc st.length) [.p (natD m)] = .ok (.p .none, st ++ [.lst ((M ++ [m]).map natD)]) := by
    rw [hZ, mAppend_at (getM _ _) (by rw [List.length_map, LIM_eq]; omega), setM, List.map_append]; rfl
  rw [← hρ9] at s9
  refine ⟨P6, P7, P8, P9, some (.p (natD m)), m, es_seq s6 (SeqK.nx (es_seq s7 (SeqK.nx (es_seq s8 (SeqK.nx (es_seq s9 (SeqK.nx (es_seq s10 (SeqK.nx (es_seq (es_expr (ev_mth (ev_var rfl) (isLst_loc hgZ) (ea_cons (ev_var rfl) ea_nil) happ)) (SeqK.nx (es_set (ev_bin (ev_var rfl) (ev_var rfl) rfl rfl (subN hfit.1.1)) rfl)))))))))))), htold, hrm⟩
theorem counts_ok {T : Tk} (hT : TOk T) {n : Nat} (hn : n ≤ room T) (st : Store) : m_best_counts [.p (TkD T), .p (natD n)] st = .ok (.p (rowD (told dsc T n)), st) := by
  have hTl := hT.hi
  obtain ⟨ρ', st', e, y3, y4, y5, y6, y7, y8, y9, y10, M, rfl, rfl, hM, -⟩ := forG_ix (src := (List.range T.length).map fun i => PyData.tuple [natD i, rowD (T.getD i [])]) (gt := gTupV 2 (gsCons (gSet 4) (gsCons (gSet 5) (gsNil)))) (body := m_best_counts_b1) (ds := (List.range T.length).map fun i => PyData.tuple [natD i, rowD (T.getD i [])]) (ρ := BC T n (some (.loc st.length)) (some (.p (natD n))) none none none none none none none) (st := st ++ [.lst []])
    (fun i ρ s => ∃ y3 y4 y5 y6 y7 y8 y9 y10 M, ρ = BC T n (some (.loc st.length)) y3 y4 y5 y6 y7 y8 y9 y10 ∧ s = st ++ [.lst (M.map natD)] ∧ (∃ left, y3 = some (.p (natD left)) ∧ told dsc T n = M ++ told dsc (T.drop i) left ∧ left ≤ room (T.drop i)) ∧ M.length = i)
    (fun i d ρ s hi ⟨y3, y4, y5, y6, y7, y8, y9, y10, M, hρ, hs, ⟨left, h3, ht, hl⟩, hMl⟩ => by
      subst hρ; subst hs; subst h3
      rw [List.getElem?_map] at hi
      have hlt : i < T.length := by
        rcases Nat.lt_or_ge i T.length with z | z
        · exact z
        · rw [List.getElem?_eq_none (by rw [List.length_range]; exact z)] at hi; cases hi
      rw [List.getElem?_range hlt] at hi
      obtain rfl : PyData.tuple [natD i, rowD (T.getD i [])] = d := Option.some.inj hi
      obtain ⟨z6, z7, z8, z9, z10, m, e, ht2, hl2⟩ := bc_b1 hT (n := n) hlt hl (M := M) (by omega) (x6 := y6) (x7 := y7) (x8 := y8) (x9 := y9) (x10 := y10) st
      refine ⟨_, _, _, rfl, .inl e, _, some (.p (natD i)), some (.p (rowD (T.getD i []))), z6, z7, z8, z9, z10, M ++ [m], rfl, rfl, ⟨left - m, rfl, by rw [ht, ht2, List.append_assoc]; rfl, hl2⟩, by rw [List.length_append, hMl]; rfl⟩)
    ⟨_, _, _, _, _, _, _, _, [], rfl, rfl, ⟨n, rfl, by rw [List.drop_zero]; rfl, by rw [List.drop_zero]; exact hn⟩, rfl⟩
  rw [List.length_map, List.length_range] at hM
  obtain ⟨left, rfl, ht, _⟩ := hM
  rw [List.drop_length] at ht
  have hMt : told dsc T n = M := by rw [ht]; exact List.append_nil M
  rw [hMt]
  unfold m_best_counts
  refine ed_ent (EntK.c (EntK.c (EntK.n (EntK.n (EntK.n (EntK.n (EntK.n (EntK.n (EntK.n (EntK.n (EntK.n (EntK.n (EntK.n EntK.z))))))))))))) rfl (es_seq (es_expr (ev_defX (ea_cons (ev_var rfl) (ea_cons (ev_var rfl) ea_nil)) rfl (check_ok (by omega) hn st))) (SeqK.nx (es_seq (es_set (ρ' := BC T n (some (.loc st.length)) none none none none none none none none) (ev_own (en_lst ea_nil fzL_nil (by simp))) rfl) (SeqK.nx (es_seq (es_set (ρ' := BC T n (some (.loc st.length)) (some (.p (natD n))) none none none none none none none) (ev_var rfl) rfl) (SeqK.nx (es_seq (es_for (ei_enumN (c := rowD) [] (ev_var rfl)) e) (SeqK.nx (es_ret (ev_call (ea_cons (ev_var rfl) ea_nil) (pkL_cons (pk_loc (getM _ _)) pkL_nil) ((one_ap _ _).trans (tupleP_lst _))))))))))) ) ?_
  refine ed_rtF.trans ?_
  rw [List.take_left]
/-! #### refused -/
theorem es_exprX {f : FE} {x : Str} {ρ : Slots} {st st1 : Store} (h : f ρ st = .exc x st1) : sExpr f ρ st = .ok (.ex x, ρ, st1) := by
  show liftS _ (f _ _) _ = _
  rw [h]; rfl
theorem best_no {T : Tk} (hl : T.length ≤ 1000) {x : PyData} (hx : numOk x) (h : numB 0 (room T) x = false) (st : Store) : m_best_sum [.p (TkD T), .p x] st = .exc ("OutOfRange" : Str) st := by
  unfold m_best_sum
  refine ed_ent (o := .ex ("OutOfRange" : Str)) (EntK.c (EntK.c (EntK.n (EntK.n EntK.z)))) rfl (es_seq (o := .ex ("OutOfRange" : Str)) (es_exprX (ev_defXx (ea_cons (ev_var rfl) (ea_cons (ev_var rfl) ea_nil)) rfl (check_no hl hx h st))) rfl) ?_
  show R.exc _ (List.take st.length st) = _
  rw [List.take_length]
theorem counts_no {T : Tk} (hl : T.length ≤ 1000) {x : PyData} (hx : numOk x) (h : numB 0 (room T) x = false) (st : Store) : m_best_counts [.p (TkD T), .p x] st = .exc ("OutOfRange" : Str) st := by
  unfold m_best_counts
  refine ed_ent (o := .ex ("OutOfRange" : Str)) (EntK.c (EntK.c (EntK.n (EntK.n (EntK.n (EntK.n (EntK.n (EntK.n (EntK.n (EntK.n (EntK.n (EntK.n (EntK.n EntK.z))))))))))))) rfl (es_seq (o := .ex ("OutOfRange" : Str)) (es_exprX (ev_defXx (ea_cons (ev_var rfl) (ea_cons (ev_var rfl) ea_nil)) rfl (check_no hl hx h st))) rfl) ?_
  show R.exc _ (List.take st.length st) = _
  rw [List.take_length]
/-! ### asked by the law -/
abbrev QS (w : Int) (T : Tk) (x : PyData) : Slots := [some (.p (.int w)), some (.p (TkD T)), some (.p x), none]
theorem asked0 {T : Tk} (hT : TOk T) {n : Nat} (hn : n ≤ room T) (st : Store) : m__law_asked [.p (.int 0), .p (TkD T), .p (natD n)] st = .ok (.p (rowD (told dsc T n)), st) := by
  have hy : m__law_asked_y1 (QS 0 T (natD n)) st = .ok (.rt (.p (rowD (told dsc T n))), QS 0 T (natD n), st) :=
    es_ret (ev_if (t := true) (ev_asB (ev_bin (ev_var rfl) ev_c rfl rfl (eqP_int false 0 0))) (IfK.t (ev_defX (ea_cons (ev_var rfl) (ea_cons (ev_var rfl) ea_nil)) rfl (counts_ok hT hn st))))
  unfold m__law_asked
  refine ed_ent (o := .rt (.p (rowD (told dsc T n)))) (EntK.c (EntK.c (EntK.c (EntK.n EntK.z)))) rfl (by
    show (m__law_asked_y1 _ _ >>= _) = _
    rw [hy]; rfl) (ed_rtF' rfl)
theorem asked1 {T : Tk} (hT : TOk T) {n : Nat} (hn : n ≤ room T) (st : Store) : m__law_asked [.p (.int 1), .p (TkD T), .p (natD n)] st = .ok (.p (natD (bst T n)), st) := by
  have hy : m__law_asked_y1 (QS 1 T (natD n)) st = .ok (.rt (.p (natD (bst T n))), QS 1 T (natD n), st) :=
    es_ret (ev_if (t := false) (ev_asB (ev_bin (ev_var rfl) ev_c rfl rfl (eqP_int false 1 0))) (IfK.f (ev_defX (ea_cons (ev_var rfl) (ea_cons (ev_var rfl) ea_nil)) rfl (best_ok (by have := hT.hi; omega) hT.ln hn st))))
  unfold m__law_asked
  refine ed_ent (o := .rt (.p (natD (bst T n)))) (EntK.c (EntK.c (EntK.c (EntK.n EntK.z)))) rfl (by
    show (m__law_asked_y1 _ _ >>= _) = _
    rw [hy]; rfl) (ed_rtF' rfl)
theorem asked_no {T : Tk} (hl : T.length ≤ 1000) {w : Int} (hw : w = 0 ∨ w = 1) {x : PyData} (hx : numOk x) (h : numB 0 (room T) x = false) (st : Store) : m__law_asked [.p (.int w), .p (TkD T), .p x] st = .ok (.p (.str ("OutOfRange" : Str)), st) := by
  have hy : m__law_asked_y1 (QS w T x) st = .ok (.ex ("OutOfRange" : Str), QS w T x, st) := by
    have hq : vIf (asB (vBin (eqP false) (vVar 0) (vC (.int 0)))) (vDefX 2 m_best_counts (aCons (vVar 1) (aCons (vVar 2) (aNil)))) (vDefX 2 m_best_sum (aCons (vVar 1) (aCons (vVar 2) (aNil)))) (QS w T x) st = .exc ("OutOfRange" : Str) st := by
      rcases hw with rfl | rfl
      · exact ev_if (t := true) (ev_asB (ev_bin (ev_var rfl) ev_c rfl rfl (eqP_int false 0 0))) (IfK.t (ev_defXx (ea_cons (ev_var rfl) (ea_cons (ev_var rfl) ea_nil)) rfl (counts_no hl hx h st)))
      · exact ev_if (t := false) (ev_asB (ev_bin (ev_var rfl) ev_c rfl rfl (eqP_int false 1 0))) (IfK.f (ev_defXx (ea_cons (ev_var rfl) (ea_cons (ev_var rfl) ea_nil)) rfl (best_no hl hx h st)))
    show liftS _ (vIf _ _ _ _ _) _ = _
    rw [hq]; rfl
  unfold m__law_asked
  refine ed_ent (o := .rt (.p (.str ("OutOfRange" : Str)))) (EntK.c (EntK.c (EntK.c (EntK.n EntK.z)))) rfl (by
    show (m__law_asked_y1 _ _ >>= _) = _
    rw [hy]; rfl) (ed_rtF' rfl)
end K52

namespace K52
open PySem PySem.Spec PyProof.Rows L2 VL
open PySem.W (Tup Datum DatumOrd)
/-! ### what counts bring -/
theorem pre_zip : ∀ {T : Tk} {c : List Nat}, okC T c → ((T.zip c).map fun p => (p.1.take p.2).sum).sum = pre T c
  | [], [], _ => rfl
  | row :: T, m :: c, h => by
    rw [List.zip_cons_cons, List.map_cons, List.sum_cons, pre_zip h.2, pre_cons]
  | [], _ :: _, h => h.elim
  | _ :: _, [], h => h.elim
theorem zip_D (T : Tk) (c : List Nat) : zipD (T.map rowD) (c.map natD) = (T.zip c).map fun p => PyData.tuple [rowD p.1, natD p.2] := by
  unfold zipD
  rw [List.zipWith_map, List.zip_eq_zipWith, List.map_zipWith]
theorem brings_ok {T : Tk} (hl : T.length ≤ 1000) {c : List Nat} (h : okC T c) (st : Store) : m_brings [.p (TkD T), .p (rowD c)] st = .ok (.p (natD (pre T c)), st) := by
  obtain ⟨ρ, hρ⟩ : ∃ ρ : Slots, ρ = [some (.p (TkD T)), some (.p (rowD c)), none, none] := ⟨_, rfl⟩
  have hc : nLc (iZip (vVar 0) (vVar 1)) (gTupV 2 (gsCons (gSet 2) (gsCons (gSet 3) (gsNil)))) (fYes) (m_brings_c1) [2, 3] ρ st = .ok (.lst (((T.zip c).map fun p => (p.1.take p.2).sum).map natD), st) := by
    have := en_lcA (fi := iZip (vVar 0) (vVar 1)) (gt := gTupV 2 (gsCons (gSet 2) (gsCons (gSet 3) (gsNil)))) (fe := m_brings_c1) (vs := [2, 3]) (cc := fun p : List Nat × Nat => PyData.tuple [rowD p.1, natD p.2]) (src := T.zip c) (F := fun p => natD (p.1.take p.2).sum) (ρ := ρ) (ρw := ρ) (st := st) (st1 := st) (g := fun p => [some (.p (TkD T)), some (.p (rowD c)), some (.p (rowD p.1)), some (.p (natD p.2))]) (by
      have := ei_zipT (f := vVar 0) (h := vVar 1) (ρ := ρ) (st := st) (st1 := st) (st2 := st) (ds := T.map rowD) (l := c.map natD) (by rw [hρ]; exact ev_var rfl) (by rw [hρ]; exact ev_var rfl)
      rw [this, zip_D]) (by rw [hρ]; rfl) (fun _ _ => by rw [hρ]; rfl) (fun p _ => ev_call (ea_cons (ev_sl (ev_var rfl) eo_none (eo_some (ev_var rfl)) rfl (slT_toN (c := natD) (xs := p.1) (i := p.2))) ea_nil) (pkL_cons rfl pkL_nil) ((one_ap _ _).trans (sumT_nats _))) (by rw [List.length_zip, LIM_eq]; omega)
    rw [List.map_map]; exact this
  unfold m_brings
  exact ed_ent (ρ0 := ρ) (by rw [hρ]; exact EntK.c (EntK.c (EntK.n (EntK.n EntK.z)))) rfl (es_ret (ev_call (ea_cons (ev_fzL hc) ea_nil) (pkL_cons rfl pkL_nil) ((one_ap _ _).trans ((sumP_nats _).trans (by rw [pre_zip h]))))) (ed_rtF' rfl)
/-! ### all counts -/
abbrev KS6 (T : Tk) (x1 x2 x3 x4 : Option Vd) : Slots := [some (.p (TkD T)), x1, x2, x3, x4, none]
abbrev rowsD (L : List (List Nat)) : PyData := .list (L.map rowD)
def extC (row one : List Nat) : List (List Nat) := (List.range (row.length + 1)).map fun m => one ++ [m]
theorem counts_b1 {T : Tk} {row w : List Nat} (hr : row.length ≤ 8) (ho : w.length ≤ 100) {L : List (List Nat)} (hL : L.length ≤ 100000) {x1 : Option Vd} (st : Store) : m__law_counts_b1 (KS6 T x1 (some (.p (rowD row))) (some (.p (rowsD L))) (some (.p (rowD w)))) st = .ok (.nx, KS6 T x1 (some (.p (rowD row))) (some (.p (rowsD (L ++ extC row w)))) (some (.p (rowD w))), st) := by
  obtain ⟨ρ, hρ⟩ : ∃ ρ, ρ = KS6 T x1 (some (.p (rowD row))) (some (.p (rowsD L))) (some (.p (rowD w))) := ⟨_, rfl⟩
  have h2 : vVar 2 ρ st = .ok (.p (rowD row), st) := by rw [hρ]; exact ev_var rfl
  have hc : nLc (iRange1 (vBin addP (vCall (one lenP) (aCons (vVar 2) (aNil))) (vC (.int 1)))) (gSet 5) (fYes) (m__law_counts_c1) [5] ρ st = .ok (.lst ((extC row w).map rowD), st) := by
    have := en_lcA (fi := iRange1 (vBin addP (vCall (one lenP) (aCons (vVar 2) (aNil))) (vC (.int 1)))) (gt := gSet 5) (fe := m__law_counts_c1) (vs := [5]) (cc := natD) (src := List.range (row.length + 1)) (F := fun m => rowD (w ++ [m])) (ρ := ρ) (ρw := ρ) (st := st) (st1 := st) (g := fun m => ρ.set 5 (some (.p (natD m)))) (ei_rangeN (j := row.length + 1) (ev_bin (ev_call (ea_cons h2 ea_nil) (pkL_cons rfl pkL_nil) (len_mapT natD row)) ev_c rfl rfl (addN row.length 1)) (by omega)) (by rw [hρ]; rfl) (fun _ _ => rfl) (fun m _ => by
      have e1 : rowD (w ++ [m]) = .tuple (w.map natD ++ [natD m]) := by rw [rowD, List.map_append]; rfl
      rw [e1]
      exact ev_bin (by rw [hρ]; exact ev_var rfl) (ev_tup (ea_cons (by rw [hρ]; exact ev_var rfl) ea_nil) rfl (lim_lit (n := 1) rfl (by decide))) rfl rfl (addP_tup (b := [natD m]) (by rw [List.length_map, LIM_eq]; show _ + 1 ≤ _; omega))) (by rw [List.length_range, LIM_eq]; omega)
    rw [this]
    unfold extC
    rw [List.map_map]; rfl
  have hel : (extC row w).length ≤ 9 := by unfold extC; rw [List.length_map, List.length_range]; omega
  rw [← hρ]
  refine es_set (v := .p (rowsD (L ++ extC row w))) ?_ (by rw [hρ]; rfl)
  show _ = R.ok (Vd.p (PyData.list ((L ++ extC row w).map rowD)), st)
  rw [List.map_append]
  exact ev_bin (x := .list (L.map rowD)) (y := .list ((extC row w).map rowD)) (by rw [hρ]; exact ev_var rfl) (ev_fzL hc) rfl rfl (addP_lst (by rw [List.length_map, List.length_map, LIM_eq]; omega))
theorem ext_len (row : List Nat) (h : row.length ≤ 4) : ∀ F : List (List Nat), (F.flatMap (extC row)).length ≤ 5 * F.length
  | [] => by simp
  | a :: F => by
    rw [List.flatMap_cons, List.length_append, List.length_cons]
    have h1 := ext_len row h F
    have h2 : (extC row a).length ≤ 5 := by unfold extC; rw [List.length_map, List.length_range]; omega
    omega
theorem counts_b2 {T : Tk} {row : List Nat} (hr : row.length ≤ 4) {F : List (List Nat)} (hF : F.length ≤ 10000) (h1 : ∀ one ∈ F, one.length ≤ 100) {x3 x4 : Option Vd} (st : Store) : ∃ y3 y4, m__law_counts_b2 (KS6 T (some (.p (rowsD F))) (some (.p (rowD row))) x3 x4) st = .ok (.nx, KS6 T (some (.p (rowsD (F.flatMap (extC row))))) (some (.p (rowD row))) y3 y4, st) := by
  obtain ⟨ρ', st', e, y4, rfl, hst⟩ := forG_ix (src := F.map rowD) (gt := gSet 4) (body := m__law_counts_b1) (ds := F.map rowD) (ρ := KS6 T (some (.p (rowsD F))) (some (.p (rowD row))) (some (.p (rowsD []))) x4) (st := st)
    (fun i ρ s => ∃ y4, ρ = KS6 T (some (.p (rowsD F))) (some (.p (rowD row))) (some (.p (rowsD ((F.take i).flatMap (extC row))))) y4 ∧ s = st)
    (fun i d ρ s hi ⟨y4, hρ, hs⟩ => by
      subst hρ; subst hs
      rw [List.getElem?_map] at hi
      obtain ⟨one, ho, rfl⟩ := Option.map_eq_some_iff.mp hi
      obtain ⟨hlt, hoe⟩ := List.getElem?_eq_some_iff.mp ho
      have h3 := ext_len row hr (F.take i)
      rw [List.length_take] at h3
      refine ⟨_, _, _, rfl, .inl (counts_b1 (L := (F.take i).flatMap (extC row)) (by omega) (h1 one (List.mem_of_getElem? ho)) (by omega) s), some (.p (rowD one)), ?_, rfl⟩
      rw [List.take_succ_eq_append_getElem hlt, hoe, List.flatMap_append, List.flatMap_cons, List.flatMap_nil, List.append_nil])
    ⟨_, by rw [List.take_zero]; rfl, rfl⟩
  rw [List.length_map, List.take_length, hst] at e
  exact ⟨_, y4, es_seq (es_set (ρ' := KS6 T (some (.p (rowsD F))) (some (.p (rowD row))) (some (.p (rowsD []))) x4) (ev_fzL (en_lst ea_nil fzL_nil (by simp))) rfl) (SeqK.nx (es_seq (es_for (ei_seq (ev_var rfl) rfl) e) (SeqK.nx (es_set (ev_var rfl) rfl))))⟩
abbrev allC (T : Tk) : List (List Nat) := countsF T [[]]
theorem law_counts_ok {T : Tk} (hT : T.length ≤ 4) (h4 : ∀ r ∈ T, r.length ≤ 4) (st : Store) : m__law_counts [.p (TkD T)] st = .ok (.p (rowsD (allC T)), st) ∧ (allC T).length ≤ 625 := by
  obtain ⟨ρ', st', e, y2, y3, y4, G, rfl, hst, hG, hGl, -⟩ := forG_ix (src := T.map rowD) (gt := gSet 2) (body := m__law_counts_b2) (ds := T.map rowD) (ρ := KS6 T (some (.p (rowsD [[]]))) none none none) (st := st)
    (fun i ρ s => ∃ y2 y3 y4 G, ρ = KS6 T (some (.p (rowsD G))) y2 y3 y4 ∧ s = st ∧ countsF (T.drop i) G = allC T ∧ G.length ≤ 5 ^ i ∧ ∀ one ∈ G, one.length = i)
    (fun i d ρ s hi ⟨y2, y3, y4, G, hρ, hs, hG, hGl, hGo⟩ => by
      subst hρ; subst hs
      rw [List.getElem?_map] at hi
      obtain ⟨row, hr, rfl⟩ := Option.map_eq_some_iff.mp hi
      obtain ⟨hlt, hre⟩ := List.getElem?_eq_some_iff.mp hr
      have h5 : (5 : Nat) ^ i ≤ 5 ^ 4 := Nat.pow_le_pow_right (by decide) (by omega)
      have hr4 := h4 row (List.mem_of_getElem? hr)
      obtain ⟨z3, z4, e⟩ := counts_b2 (T := T) hr4 (F := G) (by omega) (fun one ho => by have := hGo one ho; omega) (x3 := y3) (x4 := y4) s
      refine ⟨_, _, _, rfl, .inl e, some (.p (rowD row)), z3, z4, G.flatMap (extC row), rfl, rfl, ?_, ?_, fun one ho => ?_⟩
      · rw [List.drop_eq_getElem_cons hlt, hre] at hG
        exact hG
      · have := ext_len row hr4 G
        rw [Nat.pow_succ]; omega
      · obtain ⟨o, h1, h2⟩ := List.mem_flatMap.mp ho
        obtain ⟨m, _, rfl⟩ := List.mem_map.mp h2
        rw [List.length_append, hGo o h1]; rfl)
    ⟨_, _, _, [[]], rfl, rfl, by rw [List.drop_zero], by simp, fun one ho => by rw [List.mem_singleton.mp ho]; rfl⟩
  rw [List.length_map, List.drop_length] at hG
  rw [List.length_map] at hGl
  have h5 : (5 : Nat) ^ T.length ≤ 5 ^ 4 := Nat.pow_le_pow_right (by decide) hT
  have hGe : G = allC T := hG
  refine ⟨?_, by rw [← hGe]; omega⟩
  rw [← hGe]
  rw [hst] at e
  unfold m__law_counts
  exact ed_ent (EntK.c (EntK.n (EntK.n (EntK.n (EntK.n (EntK.n EntK.z)))))) rfl (es_seq (es_set (ρ' := KS6 T (some (.p (rowsD [[]]))) none none none) (ev_fzL (en_lst (ea_cons (ev_tup ea_nil rfl (lim_lit (n := 0) rfl (by decide))) ea_nil) rfl (lim_lit (n := 1) rfl (by decide)))) rfl) (SeqK.nx (es_seq (es_for (ei_seq (ev_var rfl) rfl) e) (SeqK.nx (es_ret (ev_var rfl)))))) (ed_rtF' rfl)
theorem all_mem {T : Tk} {c : List Nat} : c ∈ allC T ↔ okC T c := by
  rw [counts_mem]
  constructor
  · rintro ⟨one, h, cs, ho, rfl⟩
    rw [List.mem_singleton.mp h]; exact ho
  · intro h
    exact ⟨[], List.mem_singleton.mpr rfl, c, h, rfl⟩
/-! ### marks -/
abbrev LS (sc : PyData) (T : Tk) (x3 x4 x5 x6 x7 x8 x9 x10 : Option Vd) : Slots := [some (.p sc), some (.loc 0), some (.p (TkD T)), x3, x4, x5, x6, x7, x8, x9, x10, none, none, none]
abbrev mkD (T : Tk) (c : List Nat) : PyData := .tuple [.int (-(pre T c : Nat)), rowD c]
abbrev tupT (v : List Nat) : Tup Int := ⟨v.map fun (k : Nat) => (k : Int)⟩
abbrev mkT (T : Tk) (c : List Nat) : Int × Tup Int := (-((pre T c : Nat) : Int), tupT c)
theorem tup_td (v : List Nat) : td (tupT v) = rowD v := by
  show PyData.tuple ((v.map fun (k : Nat) => (k : Int)).map td) = _
  rw [List.map_map]; rfl
theorem mk_td (T : Tk) (c : List Nat) : td (mkT T c) = mkD T c := by
  show PyData.tuple [.int _, td (tupT c)] = _
  rw [tup_td]
theorem mks_td (T : Tk) (L : List (List Nat)) : L.map (mkD T) = (L.map (mkT T)).map td := by
  rw [List.map_map]
  exact List.map_congr_left fun c _ => (mk_td T c).symm
def marksF (T : Tk) (n : Nat) : List (List Nat) := (allC T).filter fun c => decide (c.sum = n)
theorem marks_mem {T : Tk} {n : Nat} {c : List Nat} : c ∈ marksF T n ↔ okC T c ∧ c.sum = n := by
  unfold marksF
  rw [List.mem_filter, all_mem, decide_eq_true_iff]
theorem marks_min {T : Tk} (hT : TOk T) {n : Nat} (hn : n ≤ room T) : minP [.list ((marksF T n).map (mkD T))] = .ok (mkD T (told dsc T n)) := by
  obtain ⟨t1, t2, t3, t4⟩ := told_ok dsc_ok hT.ds hn
  have hl : leastOf ((marksF T n).map (mkT T)) (mkT T (told dsc T n)) := ⟨List.mem_map_of_mem (marks_mem.mpr ⟨t1, t2⟩), fun y hy => by
    obtain ⟨c, hc, rfl⟩ := List.mem_map.mp hy
    obtain ⟨o, hs⟩ := marks_mem.mp hc
    rw [tle_pair, VL.lt_int]
    have hle := pre_le dsc_ok o
    rw [hs] at hle
    rcases Nat.lt_or_ge (pre T c) (bst T n) with z | z
    · left
      rw [t3]
      show -((bst T n : Nat) : Int) < -((pre T c : Nat) : Int)
      omega
    · have he : pre T c = bst T n := Nat.le_antisymm hle z
      right
      refine ⟨by rw [t3, he], lex_tle (t4 c o hs he) ?_⟩
      rw [okC_len t1, okC_len o]⟩
  have := minP_least hl (by decide)
  rw [← mks_td, mk_td] at this
  exact this
theorem pre_range {T : Tk} {c : List Nat} (h : okC T c) : ((List.range c.length).map fun k => ((T.getD k []).take (c.getD k 0)).sum).sum = pre T c := by
  rw [← pre_zip h]
  have e : (T.zip c) = (List.range c.length).map fun k => (T.getD k [], c.getD k 0) := by
    have hl := okC_len h
    apply List.ext_getElem?
    intro i
    rw [List.getElem?_map]
    rcases Nat.lt_or_ge i c.length with z | z
    · rw [List.getElem?_range z, List.getElem?_eq_getElem (by rw [List.length_zip]; omega), List.getElem_zip]
      show some _ = some (T.getD i [], c.getD i 0)
      rw [List.getD_eq_getElem?_getD, List.getD_eq_getElem?_getD, List.getElem?_eq_getElem (by omega), List.getElem?_eq_getElem z]; rfl
    · rw [List.getElem?_eq_none (by rw [List.length_zip]; omega), List.getElem?_eq_none (by rw [List.length_range]; exact z)]; rfl
  rw [e, List.map_map]; rfl
theorem marks_c {sc : PyData} {T : Tk} (hT : TOk T) (hl : (allC T).length ≤ 625) {n : Nat} {x3 x5 x6 x7 x9 x10 : Option Vd} (st : Store) : nLc (iSeq (vVar 4)) (gSet 7) (m_law_t2) (m_law_c3) [7] (LS sc T x3 (some (.p (rowsD (allC T)))) x5 x6 x7 (some (.p (natD n))) x9 x10) st = .ok (.lst ((marksF T n).map (mkD T)), st) := by
  obtain ⟨ρ, hρ⟩ : ∃ ρ, ρ = LS sc T x3 (some (.p (rowsD (allC T)))) x5 x6 none (some (.p (natD n))) x9 x10 := ⟨_, rfl⟩
  exact en_lctA (cc := rowD) (src := allC T) (F := mkD T) (bb := fun c => decide (c.sum = n)) (ρw := ρ) (g := fun c => ρ.set 7 (some (.p (rowD c)))) (ei_seq (ev_var rfl) rfl) (by rw [hρ]; rfl) (fun _ _ => rfl) (fun c _ => by
    have e := eqI false c.sum n
    rw [Bool.bne_false] at e
    exact ev_asB (ev_bin (ev_call (ea_cons (by rw [hρ]; exact ev_var rfl) ea_nil) (pkL_cons rfl pkL_nil) ((one_ap _ _).trans (sumT_nats c))) (by rw [hρ]; exact ev_var rfl) rfl rfl e)) (fun c hc _ => by
    have o := all_mem.mp hc
    have hcl := okC_len o
    have hTl := hT.hi
    have h7 : vVar 7 (ρ.set 7 (some (.p (rowD c)))) st = .ok (.p (rowD c), st) := by rw [hρ]; exact ev_var rfl
    have hi : nLc (iRange1 (vCall (one lenP) (aCons (vVar 7) (aNil)))) (gSet 11) (fYes) (m_law_c2) [11] (ρ.set 7 (some (.p (rowD c)))) st = .ok (.lst (((List.range c.length).map fun k => ((T.getD k []).take (c.getD k 0)).sum).map natD), st) := by
      have := en_lcA (fi := iRange1 (vCall (one lenP) (aCons (vVar 7) (aNil)))) (gt := gSet 11) (fe := m_law_c2) (vs := [11]) (cc := natD) (src := List.range c.length) (F := fun k => natD ((T.getD k []).take (c.getD k 0)).sum) (ρ := ρ.set 7 (some (.p (rowD c)))) (ρw := ρ.set 7 (some (.p (rowD c)))) (st := st) (st1 := st) (g := fun k => (ρ.set 7 (some (.p (rowD c)))).set 11 (some (.p (natD k)))) (ei_rangeN (ev_call (ea_cons h7 ea_nil) (pkL_cons rfl pkL_nil) (len_mapT natD c)) (by omega)) (by rw [hρ]; rfl) (fun _ _ => rfl) (fun k hk => by
        have hk := List.mem_range.mp hk
        exact ev_call (ea_cons (ev_sl (ev_binD (by rw [hρ]; exact ev_var rfl) (by rw [hρ]; exact ev_var rfl) (ixT_p (atI_map rowD [] (l := T) (i := k) (by omega)))) eo_none (eo_some (ev_binD (by rw [hρ]; exact ev_var rfl) (by rw [hρ]; exact ev_var rfl) (ixV hk))) rfl (slT_toN (c := natD) (xs := T.getD k []) (i := c.getD k 0))) ea_nil) (pkL_cons rfl pkL_nil) ((one_ap _ _).trans (sumT_nats _))) (by rw [List.length_range, LIM_eq]; omega)
      rw [List.map_map]; exact this
    exact ev_tup (ea_cons (ev_un (ev_call (ea_cons (ev_fzL hi) ea_nil) (pkL_cons rfl pkL_nil) ((one_ap _ _).trans ((sumP_nats _).trans (by rw [pre_range o])))) rfl (negP_int _)) (ea_cons (by rw [hρ]; exact ev_var rfl) ea_nil)) rfl (lim_lit (n := 2) rfl (by decide))) (by rw [LIM_eq]; omega)
end K52

namespace K52
open PySem PySem.Spec PyProof.Rows L2 VL
theorem ne_same {d : PyData} (h : SeqAt.shaped d = true) : eqP true d d = .ok (.bool false) := eq_same true h
theorem shp_row (L : List Nat) : Shp 1 (rowD L) := Shp.tup fun x hx => by
  obtain ⟨a, _, rfl⟩ := List.mem_map.mp hx
  exact Shp.int 0 _
theorem shp_nat (n : Nat) : SeqAt.shaped (natD n) = true := (Shp.int 0 _).ok
section
variable {sc : PyData} {T : Tk} {x3 x4 x5 x6 x7 x8 x9 x10 : Option Vd}
theorem int_ok (i : Int) (st : Store) : m__law_int [.p (.int i)] st = .ok (.p (.bool true), st) := by
  unfold m__law_int
  exact ed_ent (EntK.c EntK.z) rfl (es_ret (ev_andV (t := true) (ev_un (ev_var rfl) rfl (isi_ii i)) (IfK.t (ev_notV (t := false) (ev_un (ev_var rfl) rfl (isi_ib i)))))) (ed_rtF' rfl)
abbrev sumsF (T : Tk) (j : Nat) : List Nat := (List.range j).map (bst T)
theorem neg_neg (n : Nat) : negP (.int (-(n : Int))) = .ok (natD n) := by
  rw [negP_int]
  show R.ok (PyData.int _) = R.ok (PyData.int _)
  congr 2; omega
theorem law_b2 (hT : TOk T) (hl : (allC T).length ≤ 625) {j : Nat} (hj : j ≤ room T) {ob : Ob} (hd : DrB ob) :
    ∃ y7 y9 y10 ob', m_law_b2 (LS sc T x3 (some (.p (rowsD (allC T)))) (some (.p (.list (T.flatten.map natD)))) (some (.loc 1)) x7 (some (.p (natD j))) x9 x10) [ob, .lst ((sumsF T j).map natD)] = .ok (.nx, LS sc T x3 (some (.p (rowsD (allC T)))) (some (.p (.list (T.flatten.map natD)))) (some (.loc 1)) y7 (some (.p (natD j))) y9 y10, [ob', .lst ((sumsF T (j + 1)).map natD)]) ∧ DrB ob' := by
  obtain ⟨t1, t2, t3, t4⟩ := told_ok dsc_ok hT.ds hj
  have hTl := hT.hi
  have hr8 := flat_len hT.ln
  obtain ⟨Q, hQ⟩ : ∃ Q, Q = marksF T j := ⟨_, rfl⟩
  have hQl : Q.length ≤ 625 := by
    rw [hQ]; unfold marksF
    have := List.length_filter_le (fun c : List Nat => decide (c.sum = j)) (allC T); omega
  have hQ0 : 0 < Q.length := by rw [hQ]; exact List.length_pos_of_mem (marks_mem.mpr ⟨t1, t2⟩)
  obtain ⟨v, ob1, e1, d1, hv⟩ := takeB hd [.lst ((sumsF T (j + 1)).map natD)] (b := (Q.length : Int)) (by omega) (by omega)
  have hv : v < Q.length := by omega
  obtain ⟨c, hc⟩ : ∃ c, c = Q.getD v [] := ⟨_, rfl⟩
  have hcm : c ∈ Q := by
    rw [hc, List.getD_eq_getElem?_getD, List.getElem?_eq_getElem hv]; exact List.getElem_mem _
  obtain ⟨co, cs⟩ := marks_mem.mp (by rw [← hQ]; exact hcm)
  have hmc := marks_c (sc := sc) (x3 := x3) (x5 := some (.p (.list (T.flatten.map natD)))) (x6 := some (.loc 1)) (x7 := x7) (x9 := x9) (x10 := x10) hT hl (n := j) [ob, .lst ((sumsF T j).map natD)]
  have hmin := marks_min hT hj
  rw [← hQ] at hmc hmin
  obtain ⟨P4, hP4⟩ : ∃ P4 : Option Vd, P4 = some (.p (rowsD (allC T))) := ⟨_, rfl⟩
  obtain ⟨P5, hP5⟩ : ∃ P5 : Option Vd, P5 = some (.p (.list (T.flatten.map natD))) := ⟨_, rfl⟩
  rw [← hP4, ← hP5] at hmc ⊢
  obtain ⟨P9, hP9⟩ : ∃ P9 : Option Vd, P9 = some (.p (.list (Q.map (mkD T)))) := ⟨_, rfl⟩
  obtain ⟨P10, hP10⟩ : ∃ P10 : Option Vd, P10 = some (.p (mkD T (told dsc T j))) := ⟨_, rfl⟩
  obtain ⟨Z, hZ⟩ : ∃ Z, Z = [ob, Ob.lst ((sumsF T j).map natD)] := ⟨_, rfl⟩
  rw [← hZ] at hmc ⊢
  have s9 := es_set (i := 9) (ρ' := LS sc T x3 P4 P5 (some (.loc 1)) x7 (some (.p (natD j))) P9 x10) (ev_fzL hmc) (by rw [hP9]; rfl)
  obtain ⟨ρ9, hρ9⟩ : ∃ ρ9, ρ9 = LS sc T x3 P4 P5 (some (.loc 1)) x7 (some (.p (natD j))) P9 x10 := ⟨_, rfl⟩
  rw [← hρ9] at s9
  have s10 : sSet 10 (vCall minP (aCons (vVar 9) (aNil))) ρ9 Z = .ok (.nx, LS sc T x3 P4 P5 (some (.loc 1)) x7 (some (.p (natD j))) P9 P10, Z) := es_set (ev_call (ea_cons (ev_var (by rw [hρ9, hP9]; rfl)) ea_nil) (pkL_cons rfl pkL_nil) hmin) (by rw [hρ9, hP10]; rfl)
  obtain ⟨ρ, hρ⟩ : ∃ ρ, ρ = LS sc T x3 P4 P5 (some (.loc 1)) x7 (some (.p (natD j))) P9 P10 := ⟨_, rfl⟩
  rw [← hρ] at s10
  have h2 : vVar 2 ρ Z = .ok (.p (TkD T), Z) := by rw [hρ]; exact ev_var rfl
  have h8 : vVar 8 ρ Z = .ok (.p (natD j), Z) := by rw [hρ]; exact ev_var rfl
  have d0 : ∀ {st : Store}, vUn negP (vBinD ixD (vVar 10) (vC (.int 0))) ρ st = .ok (.p (natD (bst T j)), st) := fun {st} =>
    ev_un (ev_binD (ev_var (by rw [hρ, hP10]; rfl)) ev_c (ixT_p (show L2.atI [PyData.int (-((pre T (told dsc T j) : Nat) : Int)), rowD (told dsc T j)] 0 = some (.int (-((bst T j : Nat) : Int))) by rw [t3]; rfl))) rfl (neg_neg _)
  have d1' : vBinD ixD (vVar 10) (vC (.int 1)) ρ Z = .ok (.p (rowD (told dsc T j)), Z) :=
    ev_binD (ev_var (by rw [hρ, hP10]; rfl)) ev_c (ixT_p (show L2.atI [PyData.int (-((pre T (told dsc T j) : Nat) : Int)), rowD (told dsc T j)] 1 = some (rowD (told dsc T j)) from rfl))
  have q1 : asB (vBin (eqP true) (vDef 3 m__law_asked (aCons (vC (.int 0)) (aCons (vVar 2) (aCons (vVar 8) (aNil))))) (vBinD ixD (vVar 10) (vC (.int 1)))) ρ Z = .ok (false, Z) := ev_asB (ev_bin (ev_def (ea_cons ev_c (ea_cons h2 (ea_cons h8 ea_nil))) rfl (asked0 hT hj Z)) d1' rfl rfl (ne_same (shp_row _).ok))
  have q2 : asB (vBin (eqP true) (vDef 3 m__law_asked (aCons (vC (.int 1)) (aCons (vVar 2) (aCons (vVar 8) (aNil))))) (vUn negP (vBinD ixD (vVar 10) (vC (.int 0))))) ρ Z = .ok (false, Z) := ev_asB (ev_bin (ev_def (ea_cons ev_c (ea_cons h2 (ea_cons h8 ea_nil))) rfl (asked1 hT hj Z)) d0 rfl rfl (ne_same (shp_nat _)))
  have q3 : asB (vBin (eqP true) (vUn negP (vBinD ixD (vVar 10) (vC (.int 0)))) (vCall (one sumP) (aCons (vSl (vUn revP (vFz (nSorted (vVar 5)))) (oNone) (oSome (vVar 8))) (aNil)))) ρ Z = .ok (false, Z) := ev_asB (ev_bin d0 (ev_call (ea_cons (ev_sl (x := .list ((dsc T.flatten).map natD)) (v_desc (V := T.flatten) (ev_var (by rw [hρ, hP5]; rfl))) eo_none (eo_some h8) rfl (sl_take _ j)) ea_nil) (pkL_cons rfl pkL_nil) ((one_ap _ _).trans (sumP_nats ((dsc T.flatten).take j)))) rfl rfl (ne_same (shp_nat _)))
  have hgZ : Z[1]? = some (.lst ((sumsF T j).map natD)) := by rw [hZ]; rfl
  obtain ⟨Z1, hZ1⟩ : ∃ Z1, Z1 = [ob, Ob.lst ((sumsF T (j + 1)).map natD)] := ⟨_, rfl⟩
  have happ : mAppend Z (.loc 1) [.p (natD (bst T j))] = .ok (.p .none, Z1) := by
    rw [mAppend_at hgZ (by rw [List.length_map, List.length_map, List.length_range, LIM_eq]; omega), hZ, hZ1]
    unfold sumsF
    rw [List.range_succ, List.map_append, List.map_append]; rfl
  have s6 : sExpr (vMth isLstV mAppend (vVar 6) (aCons (vUn negP (vBinD ixD (vVar 10) (vC (.int 0)))) (aNil))) ρ Z = .ok (.nx, ρ, Z1) := es_expr (ev_mth (by rw [hρ]; exact ev_var rfl) (isLst_loc hgZ) (ea_cons d0 ea_nil) happ)
  rw [← hZ1] at e1
  have hat : L2.atI (Q.map (mkD T)) (v : Int) = some (mkD T c) := by rw [hc]; exact atI_map (mkD T) [] hv
  have s7 : sSet 7 (vBinD ixD (vVar 9) (vDef 2 m__law_draw (aCons (vVar 1) (aCons (vCall (one lenP) (aCons (vVar 9) (aNil))) (aNil))))) ρ Z1 = .ok (.nx, LS sc T x3 P4 P5 (some (.loc 1)) (some (.p (mkD T c))) (some (.p (natD j))) P9 P10, ob1 :: [.lst ((sumsF T (j + 1)).map natD)]) := by
    have h9 : ∀ {st}, vVar 9 ρ st = .ok (.p (.list (Q.map (mkD T))), st) := ev_var (by rw [hρ, hP9]; rfl)
    have h1 : vVar 1 ρ Z1 = .ok (.loc 0, Z1) := by rw [hρ]; exact ev_var rfl
    exact es_set (ev_binD h9 (ev_def (ea_cons h1 (ea_cons (ev_call (ea_cons h9 ea_nil) (pkL_cons rfl pkL_nil) (len_map _ _)) ea_nil)) rfl (by rw [hZ1]; rw [hZ1] at e1; exact e1)) (ixN_p hat)) (by rw [hρ]; rfl)
  obtain ⟨Z2, hZ2⟩ : ∃ Z2 : Store, Z2 = ob1 :: [.lst ((sumsF T (j + 1)).map natD)] := ⟨_, rfl⟩
  obtain ⟨ρ7, hρ7⟩ : ∃ ρ7, ρ7 = LS sc T x3 P4 P5 (some (.loc 1)) (some (.p (mkD T c))) (some (.p (natD j))) P9 P10 := ⟨_, rfl⟩
  rw [← hZ2, ← hρ7] at s7
  have k1 : L2.atI [PyData.int (-((pre T c : Nat) : Int)), rowD c] 1 = some (rowD c) := rfl
  have k0 : L2.atI [PyData.int (-((pre T c : Nat) : Int)), rowD c] 0 = some (.int (-((pre T c : Nat) : Int))) := rfl
  have h7 : vVar 7 ρ7 Z2 = .ok (.p (mkD T c), Z2) := by rw [hρ7]; exact ev_var rfl
  have h27 : vVar 2 ρ7 Z2 = .ok (.p (TkD T), Z2) := by rw [hρ7]; exact ev_var rfl
  have hbr : vDef 2 m_brings (aCons (vVar 2) (aCons (vBinD ixD (vVar 7) (vC (.int 1))) (aNil))) ρ7 Z2 = .ok (.p (natD (pre T c)), Z2) := ev_def (ea_cons h27 (ea_cons (ev_binD h7 ev_c (ixT_p k1)) ea_nil)) rfl (brings_ok (by omega) co Z2)
  have s8 : sIf (vOr (asB (vBin (eqP true) (vDef 2 m_brings (aCons (vVar 2) (aCons (vBinD ixD (vVar 7) (vC (.int 1))) (aNil)))) (vUn negP (vBinD ixD (vVar 7) (vC (.int 0)))))) (tNot (vTru (vDef 1 m__law_int (aCons (vDef 2 m_brings (aCons (vVar 2) (aCons (vBinD ixD (vVar 7) (vC (.int 1))) (aNil)))) (aNil)))))) (sRet (vC (.bool false))) (sNil) ρ7 Z2 = .ok (.nx, ρ7, Z2) :=
    es_if (t := false) (ev_or (t := false) (ev_asB (ev_bin hbr (ev_un (ev_binD h7 ev_c (ixT_p k0)) rfl (neg_neg _)) rfl rfl (ne_same (shp_nat _)))) (IfK.f (ev_not (t := true) (ev_tru (ev_def (ea_cons hbr ea_nil) rfl (int_ok _ Z2)) rfl (tru_bool _))))) (IfK.f es_nil)
  refine ⟨some (.p (mkD T c)), P9, P10, ob1, ?_, d1⟩
  rw [← hρ7, ← hZ2]
  exact es_seq s9 (SeqK.nx (es_seq s10 (SeqK.nx (es_seq (es_if (t := false) (ev_or (t := false) q1 (IfK.f (ev_or (t := false) q2 (IfK.f q3)))) (IfK.f es_nil)) (SeqK.nx (es_seq s6 (SeqK.nx (es_seq s7 (SeqK.nx s8)))))))))
theorem v_wrong (st : Store) : (vFz (nLst (aCons (vC .none) (aCons (vTup (aNil)) (aCons (vFz (nListOf (vVar 2))) (aCons (vBin mulP (vTup (aCons (vTup (aNil)) (aNil))) (vC (.int 7))) (aCons (vTup (aCons (vC .none) (aNil))) (aCons (vTup (aCons (vFz (nLst (aCons (vC (.int 5)) (aNil)))) (aNil))) (aCons (vTup (aCons (vTup (aCons (vC (.int 1)) (aCons (vC (.int 2)) (aNil)))) (aNil))) (aCons (vTup (aCons (vTup (aCons (vC (.int 1001)) (aNil))) (aNil))) (aCons (vTup (aCons (vTup (aCons (vUn negP (vC (.int 1))) (aNil))) (aNil))) (aCons (vTup (aCons (vTup (aCons (vC (.bool true)) (aNil))) (aNil))) (aCons (vTup (aCons (vTup (aCons (vC .none) (aNil))) (aNil))) (aCons (vTup (aCons (vBin mulP (vTup (aCons (vC (.int 1)) (aNil))) (vC (.int 9))) (aNil))) (aCons (vC (.int 5)) (aNil)))))))))))))))) (LS sc T x3 x4 x5 x6 x7 x8 x9 x10) st = .ok (.p (.list (oddT T)), st) := by
  obtain ⟨ρ, hρ⟩ : ∃ ρ, ρ = LS sc T x3 x4 x5 x6 x7 x8 x9 x10 := ⟨_, rfl⟩
  rw [← hρ]
  have h2 : vVar 2 ρ st = .ok (.p (TkD T), st) := by rw [hρ]; exact ev_var rfl
  have t0 : vTup (aNil) ρ st = .ok (.p (.tuple []), st) := ev_tup ea_nil rfl (lim_lit (n := 0) rfl (by decide))
  have t1 : ∀ {f : FE} {x : PyData}, f ρ st = .ok (.p x, st) → vTup (aCons f (aNil)) ρ st = .ok (.p (.tuple [x]), st) := fun h1 => ev_tup (ea_cons h1 ea_nil) rfl (lim_lit (n := 1) rfl (by decide))
  have t2 : ∀ {f g : FE} {x y : PyData}, f ρ st = .ok (.p x, st) → g ρ st = .ok (.p y, st) → vTup (aCons f (aCons g (aNil))) ρ st = .ok (.p (.tuple [x, y]), st) := fun h1 h2 => ev_tup (ea_cons h1 (ea_cons h2 ea_nil)) rfl (lim_lit (n := 2) rfl (by decide))
  have c : ∀ {d : PyData}, vC d ρ st = .ok (.p d, st) := ev_c
  have m7 : mulP (.tuple [.tuple []]) (.int 7) = .ok (.tuple (List.replicate 7 (.tuple []))) := by
    have : mulP (.tuple [.tuple []]) (.int 7) = if ([PyData.tuple []] ≠ [] ∧ (2 : Int) ≤ 7 ∧ (7 : Int) ≤ 1000 ∧ [PyData.tuple []].length ≤ 1000) then .ok (.tuple (List.replicate (7 : Int).toNat [PyData.tuple []]).flatten) else .bad := rfl
    rw [this, if_pos ⟨by simp, by decide, by decide, by decide⟩]; rfl
  have m9 : mulP (.tuple [.int 1]) (.int 9) = .ok (.tuple (List.replicate 9 (.int 1))) := by
    have : mulP (.tuple [.int 1]) (.int 9) = if ([PyData.int 1] ≠ [] ∧ (2 : Int) ≤ 9 ∧ (9 : Int) ≤ 1000 ∧ [PyData.int 1].length ≤ 1000) then .ok (.tuple (List.replicate (9 : Int).toNat [PyData.int 1]).flatten) else .bad := rfl
    rw [this, if_pos ⟨by simp, by decide, by decide, by decide⟩]; rfl
  refine ev_fzL (en_lst (as := (oddT T).map Vd.p) (st1 := st) ?_ rfl (lim_lit (n := 13) rfl (by decide)))
  exact ea_cons c (ea_cons t0 (ea_cons (ev_fzL (en_listOf h2 rfl rfl)) (ea_cons (ev_bin (t1 t0) c rfl rfl m7) (ea_cons (t1 c) (ea_cons (t1 (ev_fzL (en_lst (ea_cons c ea_nil) rfl (lim_lit (n := 1) rfl (by decide))))) (ea_cons (t1 (t2 c c)) (ea_cons (t1 (t1 c)) (ea_cons (t1 (t1 (ev_un c rfl (negP_int 1)))) (ea_cons (t1 (t1 c)) (ea_cons (t1 (t1 c)) (ea_cons (t1 (ev_bin (t1 c) c rfl rfl m9)) (ea_cons c ea_nil))))))))))))
theorem rangeD2 (n : Nat) : rangeD 2 (n : Int) = (List.range (n - 2)).map fun j => natD (j + 2) := by
  unfold rangeD
  rw [show ((n : Int) - 2).toNat = n - 2 by omega]
  refine List.map_congr_left fun k _ => ?_
  show PyData.int _ = PyData.int _
  congr 1; omega
theorem conc_c {n : Nat} (hn : n = room T + 1) (hn2 : n ≤ 1000) {ob : Ob} : nLc (iRange2 (vC (.int 2)) (vCall (one lenP) (aCons (vVar 6) (aNil)))) (gSet 11) (m_law_t3) (m_law_c4) [11] (LS sc T x3 x4 x5 (some (.loc 1)) x7 x8 x9 x10) [ob, .lst ((sumsF T n).map natD)] = .ok (.lst [], [ob, .lst ((sumsF T n).map natD)]) := by
  obtain ⟨ρ, hρ⟩ : ∃ ρ, ρ = LS sc T x3 x4 x5 (some (.loc 1)) x7 x8 x9 x10 := ⟨_, rfl⟩
  obtain ⟨Z, hZ⟩ : ∃ Z, Z = [ob, Ob.lst ((sumsF T n).map natD)] := ⟨_, rfl⟩
  rw [← hρ, ← hZ]
  have hg : Z[1]? = some (.lst ((sumsF T n).map natD)) := by rw [hZ]; rfl
  have h6 : vVar 6 ρ Z = .ok (.loc 1, Z) := by rw [hρ]; exact ev_var rfl
  have hlen : vCall (one lenP) (aCons (vVar 6) (aNil)) ρ Z = .ok (.p (.int (n : Int)), Z) := ev_call (ea_cons h6 ea_nil) (pkL_cons (pk_loc hg) pkL_nil) (by
    have := len_map natD (sumsF T n)
    rw [List.length_map, List.length_range] at this; exact this)
  have hi := ei_range2 (f := vC (.int 2)) (ρ := ρ) (st := Z) (st1 := Z) ev_c hlen ⟨in62 (by omega) (by omega), in62 (by omega) (by omega)⟩
  rw [rangeD2] at hi
  have hix : ∀ {k : Nat} {f : FE} {ρ1 : Slots}, k < n → vVar 6 ρ1 Z = .ok (.loc 1, Z) → f ρ1 Z = .ok (.p (natD k), Z) → vBinD ixD (vVar 6) f ρ1 Z = .ok (.p (natD (bst T k)), Z) := fun {k f ρ1} hk h6 hf => ev_binD h6 hf (by
    have e : (sumsF T n).getD k 0 = bst T k := by
      unfold sumsF
      rw [List.getD_eq_getElem?_getD, List.getElem?_map, List.getElem?_range hk]; rfl
    have := ixO hg (atI_map natD 0 (l := sumsF T n) (i := k) (by rw [List.length_map, List.length_range]; exact hk))
    rw [e] at this; exact this)
  have := en_lctA (fi := iRange2 (vC (.int 2)) (vCall (one lenP) (aCons (vVar 6) (aNil)))) (gt := gSet 11) (tt := m_law_t3) (fe := m_law_c4) (vs := [11]) (cc := fun j => natD (j + 2)) (src := List.range (n - 2)) (F := fun j => natD (j + 2)) (bb := fun _ => false) (ρ := ρ) (ρw := ρ) (st := Z) (st1 := Z) (g := fun j => ρ.set 11 (some (.p (natD (j + 2))))) hi (by rw [hρ]; rfl) (fun _ _ => rfl) (fun j hj => by
    have hj := List.mem_range.mp hj
    obtain ⟨ρ1, hρ1⟩ : ∃ ρ1, ρ1 = ρ.set 11 (some (.p (natD (j + 2)))) := ⟨_, rfl⟩
    have g6 : vVar 6 ρ1 Z = .ok (.loc 1, Z) := by rw [hρ1, hρ]; exact ev_var rfl
    have g11 : vVar 11 ρ1 Z = .ok (.p (natD (j + 2)), Z) := by rw [hρ1, hρ]; exact ev_var rfl
    have m1 : vBin subP (vVar 11) (vC (.int 1)) ρ1 Z = .ok (.p (natD (j + 1)), Z) := ev_bin g11 ev_c rfl rfl (subN (a := j + 2) (b := 1) (by omega))
    have m2 : vBin subP (vVar 11) (vC (.int 2)) ρ1 Z = .ok (.p (natD j), Z) := ev_bin g11 ev_c rfl rfl (subN (a := j + 2) (b := 2) (by omega))
    have hcv := concave dsc_ok T (k := j) (by show j + 2 ≤ room T; omega)
    rw [← hρ1]
    refine rT (ev_asB (ev_bin (ev_bin (hix (k := j + 2) (by omega) g6 g11) (hix (k := j + 1) (by omega) g6 m1) rfl rfl (VL.op_sub _ _)) (ev_bin (hix (k := j + 1) (by omega) g6 m1) (hix (k := j) (by omega) g6 m2) rfl rfl (VL.op_sub _ _)) rfl rfl (gtP_int _ _))) ?_
    refine decide_eq_false ?_
    have hcv : bst T (j + 2) + bst T j ≤ bst T (j + 1) + bst T (j + 1) := hcv
    omega) (fun _ _ h => by cases h) (by rw [List.length_range, LIM_eq]; omega)
  rw [this]; simp
theorem fin_c (hT : TOk T) (st : Store) : (vBin (eqP false) (vFz (nLc (iSeq (vFz (nLst (aCons (vTup (aCons (vC (.int 0)) (aCons (vUn negP (vC (.int 1))) (aNil)))) (aCons (vTup (aCons (vC (.int 0)) (aCons (vBin addP (vCall (one lenP) (aCons (vVar 5) (aNil))) (vC (.int 1))) (aNil)))) (aCons (vTup (aCons (vC (.int 1)) (aCons (vBin addP (vCall (one lenP) (aCons (vVar 5) (aNil))) (vC (.int 1))) (aNil)))) (aCons (vTup (aCons (vC (.int 1)) (aCons (vC (.bool true)) (aNil)))) (aNil)))))))) (gTupV 2 (gsCons (gSet 12) (gsCons (gSet 8) (gsNil)))) (fYes) (m_law_c5) [12, 8])) (vFz (nRep (nLst (aCons (vC (.str ("OutOfRange" : Str))) (aNil))) (vC (.int 4))))) (LS sc T x3 x4 (some (.p (.list (T.flatten.map natD)))) x6 x7 x8 x9 x10) st = .ok (.p (.bool true), st) := by
  have hTl := hT.hi
  have hr8 := flat_len hT.ln
  obtain ⟨ρ, hρ⟩ : ∃ ρ, ρ = LS sc T x3 x4 (some (.p (.list (T.flatten.map natD)))) x6 x7 x8 x9 x10 := ⟨_, rfl⟩
  rw [← hρ]
  have hlen : vBin addP (vCall (one lenP) (aCons (vVar 5) (aNil))) (vC (.int 1)) ρ st = .ok (.p (natD (room T + 1)), st) := ev_bin (ev_call (ea_cons (show vVar 5 ρ st = .ok (.p (.list (T.flatten.map natD)), st) by rw [hρ]; exact ev_var rfl) ea_nil) (pkL_cons rfl pkL_nil) (len_map natD T.flatten)) ev_c rfl rfl (addN (room T) 1)
  have t2 : ∀ {f g : FE} {x y : PyData}, f ρ st = .ok (.p x, st) → g ρ st = .ok (.p y, st) → vTup (aCons f (aCons g (aNil))) ρ st = .ok (.p (.tuple [x, y]), st) := fun h1 h2 => ev_tup (ea_cons h1 (ea_cons h2 ea_nil)) rfl (lim_lit (n := 2) rfl (by decide))
  obtain ⟨L, hL⟩ : ∃ L : List (Int × PyData), L = [(0, .int (-1)), (0, natD (room T + 1)), (1, natD (room T + 1)), (1, .bool true)] := ⟨_, rfl⟩
  have hno : ∀ q ∈ L, (q.1 = 0 ∨ q.1 = 1) ∧ numOk q.2 ∧ numB 0 (room T) q.2 = false := by
    rw [hL]
    intro q hq
    simp only [List.mem_cons, List.not_mem_nil, or_false] at hq
    have hb : numB 0 (room T) (natD (room T + 1)) = false := by
      rw [show natD (room T + 1) = .int ((room T + 1 : Nat) : Int) from rfl, numB_i]; exact decide_eq_false (by omega)
    rcases hq with rfl | rfl | rfl | rfl
    · exact ⟨.inl rfl, .inr ⟨_, rfl⟩, by rw [numB_i]; exact decide_eq_false (by omega)⟩
    · exact ⟨.inl rfl, .inr ⟨_, rfl⟩, hb⟩
    · exact ⟨.inr rfl, .inr ⟨_, rfl⟩, hb⟩
    · exact ⟨.inr rfl, .inl rfl, rfl⟩
  have hc := en_lcA (gt := gTupV 2 (gsCons (gSet 12) (gsCons (gSet 8) (gsNil)))) (fe := m_law_c5) (vs := [12, 8]) (cc := fun q : Int × PyData => PyData.tuple [.int q.1, q.2]) (src := L) (F := fun _ => PyData.str ("OutOfRange" : Str)) (ρ := ρ) (ρw := wipeV ρ [12, 8]) (st := st) (st1 := st) (g := fun q => ((wipeV ρ [12, 8]).set 12 (some (.p (.int q.1)))).set 8 (some (.p q.2))) (fi := iSeq (vFz (nLst (aCons (vTup (aCons (vC (.int 0)) (aCons (vUn negP (vC (.int 1))) (aNil)))) (aCons (vTup (aCons (vC (.int 0)) (aCons (vBin addP (vCall (one lenP) (aCons (vVar 5) (aNil))) (vC (.int 1))) (aNil)))) (aCons (vTup (aCons (vC (.int 1)) (aCons (vBin addP (vCall (one lenP) (aCons (vVar 5) (aNil))) (vC (.int 1))) (aNil)))) (aCons (vTup (aCons (vC (.int 1)) (aCons (vC (.bool true)) (aNil)))) (aNil)))))))) (by
    refine ei_seq (ev_fzL (en_lst (as := (L.map fun q : Int × PyData => PyData.tuple [.int q.1, q.2]).map Vd.p) (st1 := st) ?_ (by rw [hL]; rfl) (by rw [hL]; exact lim_lit (n := 4) rfl (by decide)))) rfl
    rw [hL]
    exact ea_cons (t2 ev_c (ev_un ev_c rfl (negP_int 1))) (ea_cons (t2 ev_c hlen) (ea_cons (t2 ev_c hlen) (ea_cons (t2 ev_c ev_c) ea_nil)))) rfl (fun _ _ => rfl) (fun q hq => by
    obtain ⟨h1, h2, h3⟩ := hno q hq
    exact ev_def (ea_cons (a := .p (.int q.1)) (by rw [hρ]; exact ev_var rfl) (ea_cons (a := .p (TkD T)) (by rw [hρ]; exact ev_var rfl) (ea_cons (a := .p q.2) (by rw [hρ]; exact ev_var rfl) ea_nil))) rfl (asked_no (by omega) h1 h2 h3 st)) (by rw [hL]; exact lim_lit (n := 4) rfl (by decide))
  have hr : vFz (nRep (nLst (aCons (vC (.str ("OutOfRange" : Str))) (aNil))) (vC (.int 4))) ρ st = .ok (.p (.list (L.map fun _ => PyData.str ("OutOfRange" : Str))), st) := by
    refine ev_fzL ?_
    unfold nRep
    rw [en_lst (ea_cons ev_c ea_nil) rfl (lim_lit (n := 1) rfl (by decide)), R.ok_bind]
    show (if (-(2 ^ 63) ≤ (4 : Int) ∧ (4 : Int) < 2 ^ 63 ∧ [PyData.str ("OutOfRange" : Str)].length * (4 : Int).toNat ≤ LIM) then R.ok (Ob.lst (List.replicate (4 : Int).toNat [PyData.str ("OutOfRange" : Str)]).flatten, st) else .bad) = _
    rw [if_pos ⟨by decide, by decide, by rw [LIM_eq]; decide⟩, hL]; rfl
  exact ev_bin (ev_fzL hc) hr rfl rfl (eq_same false (Shp.lst (n := 0) fun x hx => by
    obtain ⟨_, _, rfl⟩ := List.mem_map.mp hx
    exact Shp.str 0 _ (by decide +kernel)).ok)
end
end K52

namespace K52
open PySem PySem.Spec PyProof.Rows L2 VL
set_option maxHeartbeats 8000000 in
theorem law_math (ns : List Int) (hl : ns.length ≤ 63) : ∃ st', m_law [.p (.list (ns.map .int))] [] = .ok (.p (.bool true), st') := by
  obtain ⟨ob0, e0, d0⟩ := openB_ok ns []
  rw [← open_eq] at e0
  obtain ⟨sc, hsc⟩ : ∃ sc, sc = PyData.list (ns.map .int) := ⟨_, rfl⟩
  rw [← hsc] at e0 ⊢
  obtain ⟨T, ob1, e1, d1, hT, hT4, hr4⟩ := take_ok d0
  obtain ⟨eC, hCl⟩ := law_counts_ok hT4 hr4 [ob1]
  have hTl := hT.hi
  have hr8 := flat_len hT.ln
  have hj2 := at_ok (T := List.replicate 6 (List.replicate 8 1000)) (st := [ob1]) ⟨by decide, by decide, by decide, fun r hr => by rw [List.eq_of_mem_replicate hr]; exact List.pairwise_replicate.mpr (.inr (Nat.le_refl _)), fun r hr x hx => by rw [List.eq_of_mem_replicate hr] at hx; rw [List.eq_of_mem_replicate hx]; exact Nat.le_refl _⟩
  have m8 : mulP (.tuple [.int 1000]) (.int 8) = .ok (rowD (List.replicate 8 1000)) := by
    have : mulP (.tuple [.int 1000]) (.int 8) = if ([PyData.int 1000] ≠ [] ∧ (2 : Int) ≤ 8 ∧ (8 : Int) ≤ 1000 ∧ [PyData.int 1000].length ≤ 1000) then .ok (.tuple (List.replicate (8 : Int).toNat [PyData.int 1000]).flatten) else .bad := rfl
    rw [this, if_pos ⟨by simp, by decide, by decide, by decide⟩]; rfl
  have m6 : mulP (.tuple [rowD (List.replicate 8 1000)]) (.int 6) = .ok (TkD (List.replicate 6 (List.replicate 8 1000))) := by
    have : mulP (.tuple [rowD (List.replicate 8 1000)]) (.int 6) = if ([rowD (List.replicate 8 1000)] ≠ [] ∧ (2 : Int) ≤ 6 ∧ (6 : Int) ≤ 1000 ∧ [rowD (List.replicate 8 1000)].length ≤ 1000) then .ok (.tuple (List.replicate (6 : Int).toNat [rowD (List.replicate 8 1000)]).flatten) else .bad := rfl
    rw [this, if_pos ⟨by simp, by decide, by decide, by decide⟩]; rfl
  have t1 : ∀ {f : FE} {x : PyData} {ρ : Slots} {st : Store}, f ρ st = .ok (.p x, st) → vTup (aCons f (aNil)) ρ st = .ok (.p (.tuple [x]), st) := fun h1 => ev_tup (ea_cons h1 ea_nil) rfl (lim_lit (n := 1) rfl (by decide))
  unfold m_law
  refine ed_law (ρ0 := [some (.p sc), none, none, none, none, none, none, none, none, none, none, none, none, none]) (EntK.c (EntK.n (EntK.n (EntK.n (EntK.n (EntK.n (EntK.n (EntK.n (EntK.n (EntK.n (EntK.n (EntK.n (EntK.n (EntK.n EntK.z)))))))))))))) rfl ?_
  refine sx (ρ1 := [some (.p sc), some (.loc 0), none, none, none, none, none, none, none, none, none, none, none, none]) (st1 := [ob0]) (es_set (ev_def (ea_cons (ev_var rfl) ea_nil) rfl e0) rfl) ?_
  refine sx (ρ1 := LS sc T none none none none none none none none) (st1 := [ob1]) (es_set (ev_def (ea_cons (ev_var rfl) ea_nil) rfl e1) rfl) ?_
  refine sx (ρ1 := LS sc T (some (.p (.list (oddT T)))) none none none none none none none) (st1 := [ob1]) (es_set (v_wrong [ob1]) rfl) ?_
  refine sx (es_if (t := false) (st1 := [ob1]) (ev_or (t := false) (st1 := [ob1]) (rT (ev_asB (ev_bin (ev_def (ea_cons (ev_var rfl) ea_nil) rfl (at_ok hT)) ev_c rfl rfl (isn_tt true))) rfl) (IfK.f (ev_or (t := false) (st1 := [ob1]) (rT (ev_asB (ev_bin (ev_def (ea_cons (ev_bin (t1 (ev_bin (t1 ev_c) ev_c rfl rfl m8)) ev_c rfl rfl m6) ea_nil) rfl hj2) ev_c rfl rfl (isn_tt true))) rfl) (IfK.f (ev_asB (nil_t (none_c (i := 3) (j := 13) (l := oddT T) rfl rfl (lim_lit (n := 13) rfl (by decide)) fun d hd => ev_asB (ev_bin (ev_def (ea_cons (ev_var (v := .p d) rfl) ea_nil) rfl (odd_tak d hd)) ev_c rfl rfl (isn_ff false))) true)))))) (IfK.f es_nil)) ?_
  obtain ⟨P3, hP3⟩ : ∃ P3 : Option Vd, P3 = some (.p (.list (oddT T))) := ⟨_, rfl⟩
  rw [← hP3]
  refine sx (ρ1 := LS sc T P3 (some (.p (rowsD (allC T)))) none none none none none none) (st1 := [ob1]) (es_set (ev_def (ea_cons (ev_var rfl) ea_nil) rfl eC) rfl) ?_
  refine sx (ρ1 := LS sc T P3 (some (.p (rowsD (allC T)))) (some (.p (.list []))) (some (.loc 1)) none none none none) (st1 := [ob1, .lst []]) (es_asgT (as := [.p (.list []), .loc 1]) (ea_cons (ev_fzL (en_lst ea_nil fzL_nil (by simp))) (ea_cons (ev_own (en_lst ea_nil fzL_nil (by simp))) ea_nil)) ⟨rfl, by rw [LIM_eq]; decide⟩ rfl) ?_
  obtain ⟨ρ', st', eE, y7, rfl, hst⟩ := forG_ix (src := T.map rowD) (gt := gSet 7) (body := m_law_b1) (ds := T.map rowD) (st := [ob1, .lst []]) (ρ := LS sc T P3 (some (.p (rowsD (allC T)))) (some (.p (.list []))) (some (.loc 1)) none none none none)
    (fun i ρ s => ∃ y7, ρ = LS sc T P3 (some (.p (rowsD (allC T)))) (some (.p (.list ((T.take i).flatten.map natD)))) (some (.loc 1)) y7 none none none ∧ s = [ob1, .lst []])
    (fun i d ρ s hi ⟨y7, hρ, hs⟩ => by
      subst hρ; subst hs
      rw [List.getElem?_map] at hi
      obtain ⟨r, hr, rfl⟩ := Option.map_eq_some_iff.mp hi
      obtain ⟨hlt, hre⟩ := List.getElem?_eq_some_iff.mp hr
      have h1 := flat_len (T := T.take i) fun r hr => hT.ln r (List.take_subset _ _ hr)
      unfold room at h1
      rw [List.length_take] at h1
      have h2 := hT.ln r (List.mem_of_getElem? hr)
      refine ⟨_, _, _, rfl, .inl (es_set (v := .p (.list ((T.take (i + 1)).flatten.map natD))) (ρ' := LS sc T P3 (some (.p (rowsD (allC T)))) (some (.p (.list ((T.take (i + 1)).flatten.map natD)))) (some (.loc 1)) (some (.p (rowD r))) none none none) ?_ rfl), _, rfl, rfl⟩
      rw [List.take_succ_eq_append_getElem hlt, hre, List.flatten_append, List.map_append]
      have e : [r].flatten = r := by simp
      rw [e]
      exact ev_bin (ev_var rfl) (ev_fzL (en_listOf (x := rowD r) (ev_var rfl) rfl rfl)) rfl rfl (addP_lst (by rw [List.length_map, List.length_map, LIM_eq]; omega)))
    ⟨_, by rw [List.take_zero]; rfl, rfl⟩
  rw [List.length_map, List.take_length] at eE
  rw [hst] at eE
  refine sx (es_for (ei_seq (ev_var rfl) rfl) eE) ?_
  obtain ⟨ρ', st', eN, y7, y8, y9, y10, ob2, rfl, rfl, d2⟩ := forG_ix (src := (List.range (room T + 1)).map natD) (gt := gSet 8) (body := m_law_b2) (ds := (List.range (room T + 1)).map natD) (st := [ob1, .lst []]) (ρ := LS sc T P3 (some (.p (rowsD (allC T)))) (some (.p (.list (T.flatten.map natD)))) (some (.loc 1)) y7 none none none)
    (fun i ρ s => ∃ y7 y8 y9 y10 ob', ρ = LS sc T P3 (some (.p (rowsD (allC T)))) (some (.p (.list (T.flatten.map natD)))) (some (.loc 1)) y7 y8 y9 y10 ∧ s = [ob', .lst ((sumsF T i).map natD)] ∧ DrB ob')
    (fun i d ρ s hi ⟨y7, y8, y9, y10, ob', hρ, hs, hd'⟩ => by
      subst hρ; subst hs
      rw [List.getElem?_map] at hi
      have hlt : i < room T + 1 := by
        rcases Nat.lt_or_ge i (room T + 1) with z | z
        · exact z
        · rw [List.getElem?_eq_none (by rw [List.length_range]; exact z)] at hi; cases hi
      rw [List.getElem?_range hlt] at hi
      obtain rfl : natD i = d := Option.some.inj hi
      obtain ⟨z7, z9, z10, ob3, e, d3⟩ := law_b2 (sc := sc) (x3 := P3) (x7 := y7) (x9 := y9) (x10 := y10) hT hCl (j := i) (by omega) hd'
      exact ⟨_, _, _, rfl, .inl e, z7, some (.p (natD i)), z9, z10, ob3, rfl, rfl, d3⟩)
    ⟨_, _, _, _, _, rfl, rfl, d1⟩
  rw [List.length_map, List.length_range] at eN
  refine sx (es_for (ei_rangeN (j := room T + 1) (ev_bin (ev_call (ea_cons (ev_var rfl) ea_nil) (pkL_cons rfl pkL_nil) (len_map natD T.flatten)) ev_c rfl rfl (addN (room T) 1)) (by omega)) eN) ?_
  refine sx (es_if (t := false) (ev_asB (nil_t (conc_c rfl (by omega)) true)) (IfK.f es_nil)) ?_
  exact sx_ret (fin_c hT _)
end K52

namespace K52
open PySem PySem.Spec PyProof.Rows L2 VL
theorem bd_is_number {K : PySem.W.Frag} {fa : Addr} {fd : FuncData} (F : Fun K "is_number" "is_number" (topS 8) fa fd) : Binds K fd ["value", "least", "most"] [] := Fun.binds (ps := ["value", "least", "most"]) F fun _ _ _ _ _ _ us hl => match us, hl with | [_, _, _], _ => rfl
theorem bd_are_takings {K : PySem.W.Frag} {fa : Addr} {fd : FuncData} (F : Fun K "are_takings" "are_takings" (topS 13) fa fd) : Binds K fd ["value"] [] := Fun.binds (ps := ["value"]) F fun _ _ _ _ _ _ us hl => match us, hl with | [_], _ => rfl
theorem bd_brings {K : PySem.W.Frag} {fa : Addr} {fd : FuncData} (F : Fun K "brings" "brings" (topS 14) fa fd) : Binds K fd ["takings", "counts"] [] := Fun.binds (ps := ["takings", "counts"]) F fun _ _ _ _ _ _ us hl => match us, hl with | [_, _], _ => rfl
theorem bd_check {K : PySem.W.Frag} {fa : Addr} {fd : FuncData} (F : Fun K "check" "check" (topS 15) fa fd) : Binds K fd ["takings", "nights"] [] := Fun.binds (ps := ["takings", "nights"]) F fun _ _ _ _ _ _ us hl => match us, hl with | [_, _], _ => rfl
theorem bd_best_sum {K : PySem.W.Frag} {fa : Addr} {fd : FuncData} (F : Fun K "best_sum" "best_sum" (topS 16) fa fd) : Binds K fd ["takings", "nights"] [] := Fun.binds (ps := ["takings", "nights"]) F fun _ _ _ _ _ _ us hl => match us, hl with | [_, _], _ => rfl
theorem bd_best_counts {K : PySem.W.Frag} {fa : Addr} {fd : FuncData} (F : Fun K "best_counts" "best_counts" (topS 17) fa fd) : Binds K fd ["takings", "nights"] [] := Fun.binds (ps := ["takings", "nights"]) F fun _ _ _ _ _ _ us hl => match us, hl with | [_, _], _ => rfl
theorem bd__law_open {K : PySem.W.Frag} {fa : Addr} {fd : FuncData} (F : Fun K "_law_open" "_law_open" (topS 19) fa fd) : Binds K fd ["script"] [] := Fun.binds (ps := ["script"]) F fun _ _ _ _ _ _ us hl => match us, hl with | [_], _ => rfl
theorem bd__law_mixed {K : PySem.W.Frag} {fa : Addr} {fd : FuncData} (F : Fun K "_law_mixed" "_law_mixed" (topS 20) fa fd) : Binds K fd ["cell", "turn"] [] := Fun.binds (ps := ["cell", "turn"]) F fun _ _ _ _ _ _ us hl => match us, hl with | [_, _], _ => rfl
theorem bd__law_draw {K : PySem.W.Frag} {fa : Addr} {fd : FuncData} (F : Fun K "_law_draw" "_law_draw" (topS 21) fa fd) : Binds K fd ["draws", "size"] [] := Fun.binds (ps := ["draws", "size"]) F fun _ _ _ _ _ _ us hl => match us, hl with | [_, _], _ => rfl
theorem bd__law_told {K : PySem.W.Frag} {fa : Addr} {fd : FuncData} (F : Fun K "_law_told" "_law_told" (topS 22) fa fd) : Binds K fd ["error"] [] := Fun.binds (ps := ["error"]) F fun _ _ _ _ _ _ us hl => match us, hl with | [_], _ => rfl
theorem bd__law_int {K : PySem.W.Frag} {fa : Addr} {fd : FuncData} (F : Fun K "_law_int" "_law_int" (topS 23) fa fd) : Binds K fd ["value"] [] := Fun.binds (ps := ["value"]) F fun _ _ _ _ _ _ us hl => match us, hl with | [_], _ => rfl
theorem bd__law_takings {K : PySem.W.Frag} {fa : Addr} {fd : FuncData} (F : Fun K "_law_takings" "_law_takings" (topS 24) fa fd) : Binds K fd ["draws"] [] := Fun.binds (ps := ["draws"]) F fun _ _ _ _ _ _ us hl => match us, hl with | [_], _ => rfl
theorem bd__law_counts {K : PySem.W.Frag} {fa : Addr} {fd : FuncData} (F : Fun K "_law_counts" "_law_counts" (topS 25) fa fd) : Binds K fd ["takings"] [] := Fun.binds (ps := ["takings"]) F fun _ _ _ _ _ _ us hl => match us, hl with | [_], _ => rfl
theorem bd__law_asked {K : PySem.W.Frag} {fa : Addr} {fd : FuncData} (F : Fun K "_law_asked" "_law_asked" (topS 26) fa fd) : Binds K fd ["what", "takings", "nights"] [] := Fun.binds (ps := ["what", "takings", "nights"]) F fun _ _ _ _ _ _ us hl => match us, hl with | [_, _, _], _ => rfl
theorem bd_law {K : PySem.W.Frag} {fa : Addr} {fd : FuncData} (F : Fun K "law" "law" (topS 27) fa fd) : Binds K fd ["script"] [] := Fun.binds (ps := ["script"]) F fun _ _ _ _ _ _ us hl => match us, hl with | [_], _ => rfl
theorem ok_is_number {P : Program} {w : World} {K : PySem.W.Frag} {mg : Str → Option Value} {base : Heap} (T : Top K mg) (TB : ∀ p ∈ tabsOf K, GxR.TabB base mg p.1 p.2) : FnOk P w K mg base CX0 1 T.D_is_number.a T.D_is_number.d ["value", "least", "most"] (spV K noX 3 m_is_number) :=
  fn_ok T.D_is_number.F sc_is_number leaves_F fun cdv A outer s H E hcd hr =>
    have hu4 := hr.units; have hu5 := room65 hr; have hu7 := room70 hr
    vss_one (vs_ret (ve_and (ve_isi (T := "int") (ve_var 0) kit_int (by rfl) T.n_isinstance (by decide +kernel) (by rfl) T.n_int (by decide +kernel)) (ve_and (ve_not (ve_isi (T := "bool") (ve_var 0) kit_bool (by rfl) T.n_isinstance (by decide +kernel) (by rfl) T.n_bool (by decide +kernel))) (ve_one (ve_chain (ov_le hu4) (ov_le hu4) le_nx (ve_var 1) (ve_var 0) (ve_var 2))))))

theorem ok_are_takings {P : Program} {w : World} {K : PySem.W.Frag} {mg : Str → Option Value} {base : Heap} (T : Top K mg) (TB : ∀ p ∈ tabsOf K, GxR.TabB base mg p.1 p.2) : FnOk P w K mg base CX0 5 T.D_are_takings.a T.D_are_takings.d ["value"] (spV K noX 1 m_are_takings) :=
  fn_ok T.D_are_takings.F sc_are_takings leaves_F fun cdv A outer s H E hcd hr =>
    have hu4 := hr.units; have hu5 := room65 hr; have hu7 := room70 hr
    vss_cons (vs_if ((vw_or (vt_not (vt_tru (ve_isi (T := "tuple") (ve_var 0) kit_tuple (by rfl) T.n_isinstance (by decide +kernel) (by rfl) T.n_tuple (by decide +kernel)))) (vw_or1 (vt_not (vt_chain (ov_le hu4) (ov_le hu4) le_nx (ve_int) (ve_callB (cv_len) (by rfl) T.n_len (by decide +kernel) (va_cons (ve_var 0) (va_nil))) (ve_kint (i := 6) (by rfl) T.k_MOST_PLAYS))))).vt) (vss_one (vs_ret (ve_bl))) (vss_nil))
      (vss_cons (vs_for PassesOwn.never rfl (vi_seq (ve_var 0)) (vg_name (i := 1) sc_are_takings.nd rfl (by first | exact .inl rfl | exact .inr rfl)) (vss_cons (vs_if ((vw_or (vt_not (vt_tru (ve_isi (T := "tuple") (ve_var 1) kit_tuple (by rfl) T.n_isinstance (by decide +kernel) (by rfl) T.n_tuple (by decide +kernel)))) (vw_or1 (vt_cmp (ov_gt hu4) (ve_callB (cv_len) (by rfl) T.n_len (by decide +kernel) (va_cons (ve_var 1) (va_nil))) (ve_kint (i := 8) (by rfl) T.k_MOST_NIGHTS) (by first | rfl | exact nobehind _ (by decide) (by decide))))).vt) (vss_one (vs_ret (ve_bl))) (vss_nil))
      (vss_cons (vs_if (vt_not (vt_tru (ve_allG (k := 1) (own := [("one", 2)]) hr rfl sc_are_takings.nd (by rfl) T.n_all (TB _ T.D_are_takings.t) T.D_are_takings.t (hcd.symm.trans T.D_are_takings.e) (vi_seq (ve_var 1)) (blkOk_by (by rfl)) (fun _ _ _ _ _ _ hr => have hu4 := hr.units; have hu5 := room65 hr; have hu7 := room70 hr; vg_name (i := 2) sc_are_takings.nd rfl (by first | exact .inl rfl | exact .inr rfl)) (fun _ _ _ _ _ _ hr => have hu4 := hr.units; have hu5 := room65 hr; have hu7 := room70 hr; vts_nil) (fun _ _ _ _ _ _ hr => have hu4 := hr.units; have hu5 := room65 hr; have hu7 := room70 hr; ve_def ((ok_is_number T TB).mono (by decide)) hr (by rfl) T.D_is_number.g T.D_is_number.F.kp (bd_is_number T.D_is_number.F) (va_cons (ve_var 2) (va_cons (ve_int) (va_cons (ve_kint (i := 1000) (by rfl) T.k_MOST_TAKEN) (va_nil)))))))) (vss_one (vs_ret (ve_bl))) (vss_nil))
      (vss_one (vs_if (vt_not (vt_tru (ve_allG (k := 1) (own := [("k", 3)]) hr rfl sc_are_takings.nd (by rfl) T.n_all (TB _ T.D_are_takings.t) T.D_are_takings.t (hcd.symm.trans T.D_are_takings.e) (vi_range1 (by rfl) T.n_range (ve_op ov_sub (ve_callB (cv_len) (by rfl) T.n_len (by decide +kernel) (va_cons (ve_var 1) (va_nil))) (ve_int))) (blkOk_by (by rfl)) (fun _ _ _ _ _ _ hr => have hu4 := hr.units; have hu5 := room65 hr; have hu7 := room70 hr; vg_name (i := 3) sc_are_takings.nd rfl (by first | exact .inl rfl | exact .inr rfl)) (fun _ _ _ _ _ _ hr => have hu4 := hr.units; have hu5 := room65 hr; have hu7 := room70 hr; vts_nil) (fun _ _ _ _ _ _ hr => have hu4 := hr.units; have hu5 := room65 hr; have hu7 := room70 hr; ve_cmp (ov_ge hu4) (ve_sub hu5 (ve_var 1) (ve_var 3)) (ve_sub hu5 (ve_var 1) (ve_op ov_add (ve_var 3) (ve_int))) (by first | rfl | exact nobehind _ (by decide) (by decide)))))) (vss_one (vs_ret (ve_bl))) (vss_nil))))))
      (vss_one (vs_ret (ve_bl))))

theorem ok_brings {P : Program} {w : World} {K : PySem.W.Frag} {mg : Str → Option Value} {base : Heap} (T : Top K mg) (TB : ∀ p ∈ tabsOf K, GxR.TabB base mg p.1 p.2) : FnOk P w K mg base CX0 1 T.D_brings.a T.D_brings.d ["takings", "counts"] (spV K noX 2 m_brings) :=
  fn_ok T.D_brings.F sc_brings leaves_F fun cdv A outer s H E hcd hr =>
    have hu4 := hr.units; have hu5 := room65 hr; have hu7 := room70 hr
    vss_one (vs_ret (ve_callB (cv_sum rfl) (by rfl) T.n_sum (by decide +kernel) (va_cons (ve_fz (vn_lc (own := [("row", 2), ("many", 3)]) rfl sc_brings.nd (vi_zip (by rfl) T.n_zip (ve_var 0) (ve_var 1)) (blkOk_by (by rfl)) (fun _ _ _ _ _ => vg_tup rfl (vgs_cons (vg_name (i := 2) sc_brings.nd rfl (by first | exact .inl rfl | exact .inr rfl)) (vgs_cons (vg_name (i := 3) sc_brings.nd rfl (by first | exact .inl rfl | exact .inr rfl)) (vgs_nil)))) (fun _ _ _ _ _ => vts_nil) (fun _ _ _ _ _ => ve_callB (cv_sum rfl) (by rfl) T.n_sum (by decide +kernel) (va_cons (ve_slice (ve_var 2) (vo_none) (vo_some (ve_var 3))) (va_nil))))) (va_nil))))

theorem ok_check {P : Program} {w : World} {K : PySem.W.Frag} {mg : Str → Option Value} {base : Heap} (T : Top K mg) (TB : ∀ p ∈ tabsOf K, GxR.TabB base mg p.1 p.2) : FnOk P w K mg base (L2N.CX P w) 2 T.D_check.a T.D_check.d ["takings", "nights"] (spV K (xw mg) 2 m_check) :=
  fn_okX T.D_check.F sc_check leaves_F fun cdv A outer s H E hcd hr tk own =>
    have hu4 := hr.units; have hu5 := room65 hr; have hu7 := room70 hr
    vss_one (vs_if (vt_not (vt_tru (ve_def ((ok_is_number T TB).mono (by decide)) hr (by rfl) T.D_is_number.g T.D_is_number.F.kp (bd_is_number T.D_is_number.F) (va_cons (ve_var 1) (va_cons (ve_int) (va_cons (ve_callB (cv_sum rfl) (by rfl) T.n_sum (by decide +kernel) (va_cons (ve_fz (vn_lc (own := [("row", 2)]) rfl sc_check.nd (vi_seq (ve_var 0)) (blkOk_by (by rfl)) (fun _ _ _ _ _ => vg_name (i := 2) sc_check.nd rfl (by first | exact .inl rfl | exact .inr rfl)) (fun _ _ _ _ _ => vts_nil) (fun _ _ _ _ _ => ve_callB (cv_len) (by rfl) T.n_len (by decide +kernel) (va_cons (ve_var 2) (va_nil))))) (va_nil))) (va_nil))))))) (vss_one (vs_raise rfl tk T.x_OutOfRange (by rfl))) (vss_nil))

theorem ok_best_sum {P : Program} {w : World} {K : PySem.W.Frag} {mg : Str → Option Value} {base : Heap} (T : Top K mg) (TB : ∀ p ∈ tabsOf K, GxR.TabB base mg p.1 p.2) : FnOk P w K mg base (L2N.CX P w) 3 T.D_best_sum.a T.D_best_sum.d ["takings", "nights"] (spV K (xw mg) 2 m_best_sum) :=
  fn_okX T.D_best_sum.F sc_best_sum leaves_F fun cdv A outer s H E hcd hr tk own =>
    have hu4 := hr.units; have hu5 := room65 hr; have hu7 := room70 hr
    vss_cons (vs_expr (ve_defX tk ((ok_check T TB).mono (by decide)) hr (by rfl) T.D_check.g T.D_check.F.kp (bd_check T.D_check.F) (va_cons (ve_var 0) (va_cons (ve_var 1) (va_nil)))))
      (vss_one (vs_ret (ve_callB (cv_sum rfl) (by rfl) T.n_sum (by decide +kernel) (va_cons (ve_slice (ve_revS (ve_fz (vn_sorted hu7 (by rfl) T.n_sorted (ve_fz (vn_lc2 (own := [("row", 2), ("one", 3)]) rfl sc_best_sum.nd (vi_seq (ve_var 0)) (blkOk_by (by rfl)) (fun _ _ _ _ _ => vg_name (i := 2) sc_best_sum.nd rfl (by first | exact .inl rfl | exact .inr rfl)) (fun _ _ _ _ _ => vts_nil) (fun _ _ _ _ _ => vi_seq (ve_var 2)) (fun _ _ _ _ _ => vg_name (i := 3) sc_best_sum.nd rfl (by first | exact .inl rfl | exact .inr rfl)) (fun _ _ _ _ _ => vts_nil) (fun _ _ _ _ _ => ve_var 3)))))) (vo_none) (vo_some (ve_var 1))) (va_nil)))))

theorem ok_best_counts {P : Program} {w : World} {K : PySem.W.Frag} {mg : Str → Option Value} {base : Heap} (T : Top K mg) (TB : ∀ p ∈ tabsOf K, GxR.TabB base mg p.1 p.2) : FnOk P w K mg base (L2N.CX P w) 4 T.D_best_counts.a T.D_best_counts.d ["takings", "nights"] (spV K (xw mg) 2 m_best_counts) :=
  fn_okX T.D_best_counts.F sc_best_counts leaves_F fun cdv A outer s H E hcd hr tk own =>
    have hu4 := hr.units; have hu5 := room65 hr; have hu7 := room70 hr
    vss_cons (vs_expr (ve_defX tk ((ok_check T TB).mono (by decide)) hr (by rfl) T.D_check.g T.D_check.F.kp (bd_check T.D_check.F) (va_cons (ve_var 0) (va_cons (ve_var 1) (va_nil)))))
      (vss_cons (vs_set (i := 2) sc_best_counts.nd rfl (by first | exact .inl rfl | exact .inr rfl) (ve_own (vn_lst (va_nil))))
      (vss_cons (vs_set (i := 3) sc_best_counts.nd rfl (by first | exact .inl rfl | exact .inr rfl) (ve_var 1))
      (vss_cons (vs_for own rfl (vi_enum (by rfl) T.n_enumerate (ve_var 0)) (vg_tup rfl (vgs_cons (vg_name (i := 4) sc_best_counts.nd rfl (by first | exact .inl rfl | exact .inr rfl)) (vgs_cons (vg_name (i := 5) sc_best_counts.nd rfl (by first | exact .inl rfl | exact .inr rfl)) (vgs_nil)))) (vss_cons (vs_set (i := 6) sc_best_counts.nd rfl (by first | exact .inl rfl | exact .inr rfl) (ve_defX tk ((ok_best_sum T TB).mono (by decide)) hr (by rfl) T.D_best_sum.g T.D_best_sum.F.kp (bd_best_sum T.D_best_sum.F) (va_cons (ve_slice (ve_var 0) (vo_some (ve_var 4)) (vo_none)) (va_cons (ve_var 3) (va_nil)))))
      (vss_cons (vs_set (i := 7) sc_best_counts.nd rfl (by first | exact .inl rfl | exact .inr rfl) (ve_slice (ve_var 0) (vo_some (ve_op ov_add (ve_var 4) (ve_int))) (vo_none)))
      (vss_cons (vs_set (i := 8) sc_best_counts.nd rfl (by first | exact .inl rfl | exact .inr rfl) (ve_callB (cv_sum rfl) (by rfl) T.n_sum (by decide +kernel) (va_cons (ve_fz (vn_lc (own := [("other", 11)]) rfl sc_best_counts.nd (vi_seq (ve_var 7)) (blkOk_by (by rfl)) (fun _ _ _ _ _ => vg_name (i := 11) sc_best_counts.nd rfl (by first | exact .inl rfl | exact .inr rfl)) (fun _ _ _ _ _ => vts_nil) (fun _ _ _ _ _ => ve_callB (cv_len) (by rfl) T.n_len (by decide +kernel) (va_cons (ve_var 11) (va_nil))))) (va_nil))))
      (vss_cons (vs_setLc (i := 9) (f := vFz) RN.fz (own := [("many", 10)]) rfl sc_best_counts.nd rfl rfl (vi_range1 (by rfl) T.n_range (ve_op ov_add (ve_callB (cv_len) (by rfl) T.n_len (by decide +kernel) (va_cons (ve_var 5) (va_nil))) (ve_int))) (blkOk_by (by rfl)) (fun _ _ _ _ _ => vg_name (i := 10) sc_best_counts.nd rfl (by first | exact .inl rfl | exact .inr rfl)) (fun _ _ _ _ _ => vts_one (vt_chain (ov_le hu4) (ov_le hu4) le_nx (ve_var 10) (ve_var 3) (ve_op ov_add (ve_var 10) (ve_var 8)))) (fun _ _ _ _ _ => ve_var 10))
      (vss_cons (vs_set (i := 10) sc_best_counts.nd rfl (by first | exact .inl rfl | exact .inr rfl) (ve_sub hu5 (ve_fz (vn_lc (own := [("one", 12)]) rfl sc_best_counts.nd (vi_seq (ve_var 9)) (blkOk_by (by rfl)) (fun _ _ _ _ _ => vg_name (i := 12) sc_best_counts.nd rfl (by first | exact .inl rfl | exact .inr rfl)) (fun _ _ _ _ _ => vts_one (vt_cmp (ov_eq hu4) (ve_op ov_add (ve_callB (cv_sum rfl) (by rfl) T.n_sum (by decide +kernel) (va_cons (ve_slice (ve_var 5) (vo_none) (vo_some (ve_var 12))) (va_nil))) (ve_def (fn_nox ((ok_best_sum T TB).mono (by decide))) hr (by rfl) T.D_best_sum.g T.D_best_sum.F.kp (bd_best_sum T.D_best_sum.F) (va_cons (ve_var 7) (va_cons (ve_op ov_sub (ve_var 3) (ve_var 12)) (va_nil))))) (ve_var 6) (by first | rfl | exact nobehind _ (by decide) (by decide)))) (fun _ _ _ _ _ => ve_var 12))) (ve_int)))
      (vss_cons (vs_expr (ve_mth PySem.F.plainAttrs_list PySem.F.slot_list_append PySem.F.type_list_append mv_append (ve_var 2) (va_cons (ve_var 10) (va_nil))))
      (vss_one (vs_set (i := 3) sc_best_counts.nd rfl (by first | exact .inl rfl | exact .inr rfl) (ve_op ov_sub (ve_var 3) (ve_var 10)))))))))))
      (vss_one (vs_ret (ve_callTy (cv_tuple) (by rfl) T.n_tuple (by decide +kernel) (va_cons (ve_var 2) (va_nil))))))))

theorem ok__law_open {P : Program} {w : World} {K : PySem.W.Frag} {mg : Str → Option Value} {base : Heap} (T : Top K mg) (TB : ∀ p ∈ tabsOf K, GxR.TabB base mg p.1 p.2) : FnOk P w K mg base CX0 1 T.D__law_open.a T.D__law_open.d ["script"] (spV K noX 1 m__law_open) :=
  fn_ok T.D__law_open.F sc__law_open leaves_N fun cdv A outer s H E hcd hr =>
    have hu4 := hr.units; have hu5 := room65 hr; have hu7 := room70 hr
    vss_cons (vs_setLc (i := 1) (f := vFz) RN.fz (own := [("cell", 2)]) rfl sc__law_open.nd rfl rfl (vi_seq (ve_slice (ve_var 0) (vo_none) (vo_some (ve_int)))) (blkOk_by (by rfl)) (fun _ _ _ _ _ => vg_name (i := 2) sc__law_open.nd rfl (by first | exact .inl rfl | exact .inr rfl)) (fun _ _ _ _ _ => vts_nil) (fun _ _ _ _ _ => ve_callB (cv_abs) (by rfl) T.n_abs (by decide +kernel) (va_cons (ve_callTy (cv_int) (by rfl) T.n_int (by decide +kernel) (va_cons (ve_var 2) (va_nil))) (va_nil))))
      (vss_one (vs_ret (ve_own (vn_lst (va_cons (ve_int) (va_cons (ve_int) (va_cons (ve_op ov_add (ve_var 1) (ve_fz (vn_lst (va_cons (ve_int) (va_nil))))) (va_nil))))))))

theorem ok__law_mixed {P : Program} {w : World} {K : PySem.W.Frag} {mg : Str → Option Value} {base : Heap} (T : Top K mg) (TB : ∀ p ∈ tabsOf K, GxR.TabB base mg p.1 p.2) : FnOk P w K mg base CX0 1 T.D__law_mixed.a T.D__law_mixed.d ["cell", "turn"] (spV K noX 2 m__law_mixed) :=
  fn_ok T.D__law_mixed.F sc__law_mixed leaves_F fun cdv A outer s H E hcd hr =>
    have hu4 := hr.units; have hu5 := room65 hr; have hu7 := room70 hr
    vss_cons (vs_set (i := 2) sc__law_mixed.nd rfl (by first | exact .inl rfl | exact .inr rfl) (ve_op ov_mod (ve_op ov_add (ve_op ov_add (ve_op ov_mul (ve_op ov_mod (ve_var 0) (ve_op ov_sub (ve_op ov_pow (ve_int) (ve_int)) (ve_int))) (ve_int)) (ve_op ov_mul (ve_var 1) (ve_int))) (ve_int)) (ve_op ov_pow (ve_int) (ve_int))))
      (vss_cons (vs_set (i := 2) sc__law_mixed.nd rfl (by first | exact .inl rfl | exact .inr rfl) (ve_op ov_mod (ve_op ov_mul (ve_op ov_xor (ve_var 2) (ve_op ov_shr (ve_var 2) (ve_int))) (ve_int)) (ve_op ov_pow (ve_int) (ve_int))))
      (vss_one (vs_ret (ve_op ov_mod (ve_op ov_mul (ve_op ov_xor (ve_var 2) (ve_op ov_shr (ve_var 2) (ve_int))) (ve_int)) (ve_op ov_pow (ve_int) (ve_int))))))

theorem ok__law_draw {P : Program} {w : World} {K : PySem.W.Frag} {mg : Str → Option Value} {base : Heap} (T : Top K mg) (TB : ∀ p ∈ tabsOf K, GxR.TabB base mg p.1 p.2) : FnOk P w K mg base CX0 2 T.D__law_draw.a T.D__law_draw.d ["draws", "size"] (spV K noX 2 m__law_draw) :=
  fn_ok T.D__law_draw.F sc__law_draw leaves_F fun cdv A outer s H E hcd hr =>
    have hu4 := hr.units; have hu5 := room65 hr; have hu7 := room70 hr
    vss_cons (vs_asg (ve_var 0) (vg_tup rfl (vgs_cons (vg_name (i := 2) sc__law_draw.nd rfl (by first | exact .inl rfl | exact .inr rfl)) (vgs_cons (vg_name (i := 3) sc__law_draw.nd rfl (by first | exact .inl rfl | exact .inr rfl)) (vgs_cons (vg_name (i := 4) sc__law_draw.nd rfl (by first | exact .inl rfl | exact .inr rfl)) (vgs_nil))))))
      (vss_cons (vs_if (vt_cmp (ov_lt hu4) (ve_var 3) (ve_var 1) (by first | rfl | exact nobehind _ (by decide) (by decide))) (vss_cons (vs_set (i := 5) sc__law_draw.nd rfl (by first | exact .inl rfl | exact .inr rfl) (ve_sub hu5 (ve_var 4) (ve_op ov_mod (ve_var 2) (ve_callB (cv_len) (by rfl) T.n_len (by decide +kernel) (va_cons (ve_var 4) (va_nil))))))
      (vss_cons (vs_set (i := 3) sc__law_draw.nd rfl (by first | exact .inl rfl | exact .inr rfl) (ve_if ((vw_and (vt_cmp (ov_lt hu4) (ve_var 2) (ve_callB (cv_len) (by rfl) T.n_len (by decide +kernel) (va_cons (ve_var 4) (va_nil))) (by first | rfl | exact nobehind _ (by decide) (by decide))) (vw_and1 (vt_cmp (ov_ge hu4) (ve_var 5) (ve_op ov_pow (ve_int) (ve_int)) (by first | rfl | exact nobehind _ (by decide) (by decide))))).vt) (ve_var 5) (ve_def ((ok__law_mixed T TB).mono (by decide)) hr (by rfl) T.D__law_mixed.g T.D__law_mixed.F.kp (bd__law_mixed T.D__law_mixed.F) (va_cons (ve_var 5) (va_cons (ve_var 2) (va_nil))))))
      (vss_one (vs_set (i := 2) sc__law_draw.nd rfl (by first | exact .inl rfl | exact .inr rfl) (ve_op ov_add (ve_var 2) (ve_int)))))) (vss_nil))
      (vss_cons (vs_put hu4 (ve_var 2) (ve_var 0) (ve_int))
      (vss_cons (vs_put hu4 (ve_op ov_fdiv (ve_var 3) (ve_var 1)) (ve_var 0) (ve_int))
      (vss_one (vs_ret (ve_op ov_mod (ve_var 3) (ve_var 1)))))))

theorem okE__law_told {P : Program} {w : World} {K : PySem.W.Frag} {mg : Str → Option Value} {base : Heap} (T : Top K mg) (TB : ∀ p ∈ tabsOf K, GxR.TabB base mg p.1 p.2) : FnE P w K mg base 1 T.D__law_told.a T.D__law_told.d ["error"] (spW K mg (wdN [("OutOfRange" : Str)])) :=
  told_fn (N := ["error", "kinds", "names", "name", "true"]) (Ms := [("OutOfRange", T.x_OutOfRange.C), ("Malformed", T.x_Malformed.C), ("NotThere", T.x_NotThere.C), ("Refused", T.x_Refused.C), ("TooMuch", T.x_TooMuch.C)]) (M0 := T.x_StageError.C) (fl := flN) (f1 := toldF1) (f2 := toldF2) (f := toldF3) T.D__law_told.F sc__law_told rfl (fun n => by simp [flN, five]) (fun n => by simp [flN, five]) (fun n w h => by
    have hm := wdN_mem h; simp only [List.mem_cons, List.not_mem_nil, or_false] at hm; rcases hm with rfl
    · exact ⟨T.x_OutOfRange, by simp only [List.map_cons, List.map_nil, T.kk_OutOfRange_OutOfRange, T.kk_OutOfRange_Malformed, T.kk_OutOfRange_NotThere, T.kk_OutOfRange_Refused, T.kk_OutOfRange_TooMuch]; decide, T.kk_OutOfRange_StageError⟩
    )
    (fun n w h st => toldW_ok h st)
    (fun cdv A outer s H E p C hcd eC hz hf => ps_set (i := 1) sc__law_told.nd rfl (.inl rfl) (pe_lst (pa_cons (pe_tup (pa_cons pe_str (pa_cons (pe_callB (call_isP eC List.mem_cons_self hz hf) (by rfl) T.n_isinstance (by decide +kernel) (pa_cons (pv 0) (pa_cons (pe_glob (v := .ref T.x_OutOfRange.C) (by rfl) T.x_OutOfRange.g rfl) pa_nil))) pa_nil))) (pa_cons (pe_tup (pa_cons pe_str (pa_cons (pe_callB (call_isP eC List.mem_cons_self hz hf) (by rfl) T.n_isinstance (by decide +kernel) (pa_cons (pv 0) (pa_cons (pe_glob (v := .ref T.x_Malformed.C) (by rfl) T.x_Malformed.g rfl) pa_nil))) pa_nil))) (pa_cons (pe_tup (pa_cons pe_str (pa_cons (pe_callB (call_isP eC List.mem_cons_self hz hf) (by rfl) T.n_isinstance (by decide +kernel) (pa_cons (pv 0) (pa_cons (pe_glob (v := .ref T.x_NotThere.C) (by rfl) T.x_NotThere.g rfl) pa_nil))) pa_nil))) (pa_cons (pe_tup (pa_cons pe_str (pa_cons (pe_callB (call_isP eC List.mem_cons_self hz hf) (by rfl) T.n_isinstance (by decide +kernel) (pa_cons (pv 0) (pa_cons (pe_glob (v := .ref T.x_Refused.C) (by rfl) T.x_Refused.g rfl) pa_nil))) pa_nil))) (pa_cons (pe_tup (pa_cons pe_str (pa_cons (pe_callB (call_isP eC List.mem_cons_self hz hf) (by rfl) T.n_isinstance (by decide +kernel) (pa_cons (pv 0) (pa_cons (pe_glob (v := .ref T.x_TooMuch.C) (by rfl) T.x_TooMuch.g rfl) pa_nil))) pa_nil))) (pa_nil))))))))
    (fun cdv A outer s H E p hcd hot hr => setLcE (i := 2) (own := [("name", 3), ("true", 4)]) (p := p) ⟨hot.1, hot.2⟩ List.mem_cons_self sc__law_told.nd rfl rfl (vie_own (ve_var 1)) (blkOk_by (by rfl)) (fun _ _ _ _ _ => vgp_tup ⟨hot.1, hot.2⟩ (vgs_cons (vg_name (i := 3) sc__law_told.nd rfl (by first | exact .inl rfl | exact .inr rfl)) (vgs_cons (vg_name (i := 4) sc__law_told.nd rfl (by first | exact .inl rfl | exact .inr rfl)) vgs_nil))) (fun _ _ _ _ _ => vts_one (vt_tru (ve_var 4))) (fun _ _ _ _ _ => ve_var 3))
    (fun cdv A outer s H E p C hcd eC hz hf hr => by
      have hu4 : (A.deeper (envOfC "_law_told" (defScope (topS 22)) s.heap.objs.size T.D__law_told.a cdv)).units + 64 < cLine := by (have := hr.un; omega)
      have hu5 : (A.deeper (envOfC "_law_told" (defScope (topS 22)) s.heap.objs.size T.D__law_told.a cdv)).units + 65 < cLine := by (have := hr.un; omega)
      obtain ⟨ta, pt, ra⟩ := (show VT (L2H.cxH CX0 P w K mg base ["error", "kinds", "names", "name", "true"] "_law_told" (defScope (topS 22)) T.D__law_told.a cdv A outer s H E p).nox noW _ toldF2 from vt_cmp (ov_ne hu4) (ve_callB (cv_len) (by rfl) T.n_len (by decide +kernel) (va_cons (ve_var 2) (va_nil))) (ve_int) (by first | rfl | exact nobehind _ (by decide) (by decide)))
      obtain ⟨u, pu, _⟩ := (show VSs (L2H.cxH CX0 P w K mg base ["error", "kinds", "names", "name", "true"] "_law_told" (defScope (topS 22)) T.D__law_told.a cdv A outer s H E p).nox noW _ _ from vss_one (vs_ret (ve_str)))
      exact ⟨ta, u, ps_if (PW.pt (pw_or pt (pw_or1 (pt_not (pt_val (pe_callB (call_isP eC List.mem_cons_self hz hf) (by rfl) T.n_isinstance (by decide +kernel) (pa_cons (pv 0) (pa_cons (pe_glob (v := .ref T.x_StageError.C) (by rfl) T.x_StageError.g rfl) pa_nil)))))))) pu pss_nil, ra⟩)
    (fun cdv A outer s H E p hcd hot hr => have hu4 : (A.deeper (envOfC "_law_told" (defScope (topS 22)) s.heap.objs.size T.D__law_told.a cdv)).units + 64 < cLine := by (have := hr.un; omega)
      have hu5 : (A.deeper (envOfC "_law_told" (defScope (topS 22)) s.heap.objs.size T.D__law_told.a cdv)).units + 65 < cLine := by (have := hr.un; omega)
      vss_one (vs_ret (ve_sub hu5 (ve_var 2) (ve_int))))
theorem xm_StageError {K : PySem.W.Frag} {mg : Str → Option Value} (T : Top K mg) : ∀ m w, wdN [("OutOfRange" : Str)] m = some w → ∀ C, mg m = some (.ref C) → PySem.W.exmOne K (.ref C) (.ref T.x_StageError.C) = some true := by
    intro n w h C hC
    have hm := wdN_mem h; simp only [List.mem_cons, List.not_mem_nil, or_false] at hm; rcases hm with rfl
    · have e := Value.ref.inj (Option.some.inj (hC.symm.trans T.x_OutOfRange.g)); subst e; exact T.xm_OutOfRange

theorem ok__law_int {P : Program} {w : World} {K : PySem.W.Frag} {mg : Str → Option Value} {base : Heap} (T : Top K mg) (TB : ∀ p ∈ tabsOf K, GxR.TabB base mg p.1 p.2) : FnOk P w K mg base CX0 1 T.D__law_int.a T.D__law_int.d ["value"] (spV K noX 1 m__law_int) :=
  fn_ok T.D__law_int.F sc__law_int leaves_F fun cdv A outer s H E hcd hr =>
    have hu4 := hr.units; have hu5 := room65 hr; have hu7 := room70 hr
    vss_one (vs_ret (ve_and (ve_isi (T := "int") (ve_var 0) kit_int (by rfl) T.n_isinstance (by decide +kernel) (by rfl) T.n_int (by decide +kernel)) (ve_one (ve_not (ve_isi (T := "bool") (ve_var 0) kit_bool (by rfl) T.n_isinstance (by decide +kernel) (by rfl) T.n_bool (by decide +kernel))))))

theorem ok__law_takings {P : Program} {w : World} {K : PySem.W.Frag} {mg : Str → Option Value} {base : Heap} (T : Top K mg) (TB : ∀ p ∈ tabsOf K, GxR.TabB base mg p.1 p.2) : FnOk P w K mg base CX0 3 T.D__law_takings.a T.D__law_takings.d ["draws"] (spV K noX 1 m__law_takings) :=
  fn_ok T.D__law_takings.F sc__law_takings leaves_F fun cdv A outer s H E hcd hr =>
    have hu4 := hr.units; have hu5 := room65 hr; have hu7 := room70 hr
    vss_cons (vs_set (i := 1) sc__law_takings.nd rfl (by first | exact .inl rfl | exact .inr rfl) (ve_sub hu5 (ve_fz (vn_lst (va_cons (ve_int) (va_cons (ve_int) (va_cons (ve_int) (va_nil)))))) (ve_def ((ok__law_draw T TB).mono (by decide)) hr (by rfl) T.D__law_draw.g T.D__law_draw.F.kp (bd__law_draw T.D__law_draw.F) (va_cons (ve_var 0) (va_cons (ve_int) (va_nil))))))
      (vss_one (vs_ret (ve_callTy (cv_tuple) (by rfl) T.n_tuple (by decide +kernel) (va_cons (ve_fz (vn_lc (own := [("play", 2)]) rfl sc__law_takings.nd (vi_range1 (by rfl) T.n_range (ve_op ov_add (ve_int) (ve_def ((ok__law_draw T TB).mono (by decide)) hr (by rfl) T.D__law_draw.g T.D__law_draw.F.kp (bd__law_draw T.D__law_draw.F) (va_cons (ve_var 0) (va_cons (ve_int) (va_nil)))))) (blkOk_by (by rfl)) (fun _ _ _ _ _ => vg_name (i := 2) sc__law_takings.nd rfl (by first | exact .inl rfl | exact .inr rfl)) (fun _ _ _ _ _ => vts_nil) (fun _ _ _ _ _ => ve_callTy (cv_tuple) (by rfl) T.n_tuple (by decide +kernel) (va_cons (ve_revS (ve_fz (vn_sorted hu7 (by rfl) T.n_sorted (ve_fz (vn_lc (own := [("k", 3)]) rfl sc__law_takings.nd (vi_range1 (by rfl) T.n_range (ve_def ((ok__law_draw T TB).mono (by decide)) hr (by rfl) T.D__law_draw.g T.D__law_draw.F.kp (bd__law_draw T.D__law_draw.F) (va_cons (ve_var 0) (va_cons (ve_int) (va_nil))))) (blkOk_by (by rfl)) (fun _ _ _ _ _ => vg_name (i := 3) sc__law_takings.nd rfl (by first | exact .inl rfl | exact .inr rfl)) (fun _ _ _ _ _ => vts_nil) (fun _ _ _ _ _ => ve_def ((ok__law_draw T TB).mono (by decide)) hr (by rfl) T.D__law_draw.g T.D__law_draw.F.kp (bd__law_draw T.D__law_draw.F) (va_cons (ve_var 0) (va_cons (ve_var 1) (va_nil))))))))) (va_nil))))) (va_nil)))))

theorem ok__law_counts {P : Program} {w : World} {K : PySem.W.Frag} {mg : Str → Option Value} {base : Heap} (T : Top K mg) (TB : ∀ p ∈ tabsOf K, GxR.TabB base mg p.1 p.2) : FnOk P w K mg base CX0 1 T.D__law_counts.a T.D__law_counts.d ["takings"] (spV K noX 1 m__law_counts) :=
  fn_ok T.D__law_counts.F sc__law_counts leaves_F fun cdv A outer s H E hcd hr =>
    have hu4 := hr.units; have hu5 := room65 hr; have hu7 := room70 hr
    vss_cons (vs_set (i := 1) sc__law_counts.nd rfl (by first | exact .inl rfl | exact .inr rfl) (ve_fz (vn_lst (va_cons (ve_tup (va_nil)) (va_nil)))))
      (vss_cons (vs_for PassesOwn.never rfl (vi_seq (ve_var 0)) (vg_name (i := 2) sc__law_counts.nd rfl (by first | exact .inl rfl | exact .inr rfl)) (vss_cons (vs_set (i := 3) sc__law_counts.nd rfl (by first | exact .inl rfl | exact .inr rfl) (ve_fz (vn_lst (va_nil))))
      (vss_cons (vs_for PassesOwn.never rfl (vi_seq (ve_var 1)) (vg_name (i := 4) sc__law_counts.nd rfl (by first | exact .inl rfl | exact .inr rfl)) (vss_one (vs_set (i := 3) sc__law_counts.nd rfl (by first | exact .inl rfl | exact .inr rfl) (ve_op ov_add (ve_var 3) (ve_fz (vn_lc (own := [("many", 5)]) rfl sc__law_counts.nd (vi_range1 (by rfl) T.n_range (ve_op ov_add (ve_callB (cv_len) (by rfl) T.n_len (by decide +kernel) (va_cons (ve_var 2) (va_nil))) (ve_int))) (blkOk_by (by rfl)) (fun _ _ _ _ _ => vg_name (i := 5) sc__law_counts.nd rfl (by first | exact .inl rfl | exact .inr rfl)) (fun _ _ _ _ _ => vts_nil) (fun _ _ _ _ _ => ve_op ov_add (ve_var 4) (ve_tup (va_cons (ve_var 5) (va_nil))))))))))
      (vss_one (vs_set (i := 1) sc__law_counts.nd rfl (by first | exact .inl rfl | exact .inr rfl) (ve_var 3))))))
      (vss_one (vs_ret (ve_var 1))))

theorem ok__law_asked {P : Program} {w : World} {K : PySem.W.Frag} {mg : Str → Option Value} {base : Heap} (T : Top K mg) (TB : ∀ p ∈ tabsOf K, GxR.TabB base mg p.1 p.2) : FnOk P w K mg base CX0 5 T.D__law_asked.a T.D__law_asked.d ["what", "takings", "nights"] (spV K noX 3 m__law_asked) :=
  fn_ok T.D__law_asked.F sc__law_asked leaves_F fun cdv A outer s H E hcd hr =>
    have hu4 := hr.units; have hu5 := room65 hr; have hu7 := room70 hr
    vss_one (vs_tryW (i := 3) (k := 1) rfl rfl sc__law_asked.nd rfl rfl ⟨by rfl, by decide, .inl T.x_StageError.g⟩ (okE__law_told T TB) (hr.mono (by decide)) (by rfl) T.D__law_told.g T.D__law_told.F.kp (bd__law_told T.D__law_told.F) (fun V pn xe tk own => vss_one (vs_ret (ve_if (vt_cmp (ov_eq hu4) (ve_var 0) (ve_int) (by first | rfl | exact nobehind _ (by decide) (by decide))) (ve_defX tk ((ok_best_counts T TB).mono (by decide)) hr (by rfl) T.D_best_counts.g T.D_best_counts.F.kp (bd_best_counts T.D_best_counts.F) (va_cons (ve_var 1) (va_cons (ve_var 2) (va_nil)))) (ve_defX tk ((ok_best_sum T TB).mono (by decide)) hr (by rfl) T.D_best_sum.g T.D_best_sum.F.kp (bd_best_sum T.D_best_sum.F) (va_cons (ve_var 1) (va_cons (ve_var 2) (va_nil))))))) (xm_StageError T))

theorem ok_law {P : Program} {w : World} {K : PySem.W.Frag} {mg : Str → Option Value} {base : Heap} (T : Top K mg) (TB : ∀ p ∈ tabsOf K, GxR.TabB base mg p.1 p.2) : FnOk P w K mg base CX0 6 T.D_law.a T.D_law.d ["script"] (spV K noX 1 m_law) :=
  fn_ok T.D_law.F sc_law leaves_F fun cdv A outer s H E hcd hr =>
    have hu4 := hr.units; have hu5 := room65 hr; have hu7 := room70 hr
    vss_cons (vs_set (i := 1) sc_law.nd rfl (by first | exact .inl rfl | exact .inr rfl) (ve_def ((ok__law_open T TB).mono (by decide)) hr (by rfl) T.D__law_open.g T.D__law_open.F.kp (bd__law_open T.D__law_open.F) (va_cons (ve_var 0) (va_nil))))
      (vss_cons (vs_set (i := 2) sc_law.nd rfl (by first | exact .inl rfl | exact .inr rfl) (ve_def ((ok__law_takings T TB).mono (by decide)) hr (by rfl) T.D__law_takings.g T.D__law_takings.F.kp (bd__law_takings T.D__law_takings.F) (va_cons (ve_var 1) (va_nil))))
      (vss_cons (vs_set (i := 3) sc_law.nd rfl (by first | exact .inl rfl | exact .inr rfl) (ve_fz (vn_lst (va_cons (ve_non) (va_cons (ve_tup (va_nil)) (va_cons (ve_fz (vn_listOf (by rfl) T.n_list (by decide +kernel) (ve_var 2))) (va_cons (ve_op ov_mul (ve_tup (va_cons (ve_tup (va_nil)) (va_nil))) (ve_int)) (va_cons (ve_tup (va_cons (ve_non) (va_nil))) (va_cons (ve_tup (va_cons (ve_fz (vn_lst (va_cons (ve_int) (va_nil)))) (va_nil))) (va_cons (ve_tup (va_cons (ve_tup (va_cons (ve_int) (va_cons (ve_int) (va_nil)))) (va_nil))) (va_cons (ve_tup (va_cons (ve_tup (va_cons (ve_int) (va_nil))) (va_nil))) (va_cons (ve_tup (va_cons (ve_tup (va_cons (ve_neg (ve_int)) (va_nil))) (va_nil))) (va_cons (ve_tup (va_cons (ve_tup (va_cons (ve_bl) (va_nil))) (va_nil))) (va_cons (ve_tup (va_cons (ve_tup (va_cons (ve_non) (va_nil))) (va_nil))) (va_cons (ve_tup (va_cons (ve_op ov_mul (ve_tup (va_cons (ve_int) (va_nil))) (ve_int)) (va_nil))) (va_cons (ve_int) (va_nil)))))))))))))))))
      (vss_cons (vs_if ((vw_or (vt_cmp ov_isNot (ve_def ((ok_are_takings T TB).mono (by decide)) hr (by rfl) T.D_are_takings.g T.D_are_takings.F.kp (bd_are_takings T.D_are_takings.F) (va_cons (ve_var 2) (va_nil))) (ve_bl) (by first | rfl | exact nobehind _ (by decide) (by decide))) (vw_or (vt_cmp ov_isNot (ve_def ((ok_are_takings T TB).mono (by decide)) hr (by rfl) T.D_are_takings.g T.D_are_takings.F.kp (bd_are_takings T.D_are_takings.F) (va_cons (ve_op ov_mul (ve_tup (va_cons (ve_op ov_mul (ve_tup (va_cons (ve_int) (va_nil))) (ve_int)) (va_nil))) (ve_int)) (va_nil))) (ve_bl) (by first | rfl | exact nobehind _ (by decide) (by decide))) (vw_or1 (vt_cmp (ov_ne hu4) (ve_fz (vn_lc (own := [("value", 13)]) rfl sc_law.nd (vi_seq (ve_var 3)) (blkOk_by (by rfl)) (fun _ _ _ _ _ => vg_name (i := 13) sc_law.nd rfl (by first | exact .inl rfl | exact .inr rfl)) (fun _ _ _ _ _ => vts_one (vt_cmp ov_isNot (ve_def ((ok_are_takings T TB).mono (by decide)) hr (by rfl) T.D_are_takings.g T.D_are_takings.F.kp (bd_are_takings T.D_are_takings.F) (va_cons (ve_var 13) (va_nil))) (ve_bl) (by first | rfl | exact nobehind _ (by decide) (by decide)))) (fun _ _ _ _ _ => ve_var 13))) (ve_fz (vn_lst (va_nil))) (by first | rfl | exact nobehind _ (by decide) (by decide)))))).vt) (vss_one (vs_ret (ve_bl))) (vss_nil))
      (vss_cons (vs_set (i := 4) sc_law.nd rfl (by first | exact .inl rfl | exact .inr rfl) (ve_def ((ok__law_counts T TB).mono (by decide)) hr (by rfl) T.D__law_counts.g T.D__law_counts.F.kp (bd__law_counts T.D__law_counts.F) (va_cons (ve_var 2) (va_nil))))
      (vss_cons (vs_asgT rfl (va_cons (ve_fz (vn_lst (va_nil))) (va_cons (ve_own (vn_lst (va_nil))) (va_nil))) (vgs_cons (vg_name (i := 5) sc_law.nd rfl (by first | exact .inl rfl | exact .inr rfl)) (vgs_cons (vg_name (i := 6) sc_law.nd rfl (by first | exact .inl rfl | exact .inr rfl)) (vgs_nil))))
      (vss_cons (vs_for PassesOwn.never rfl (vi_seq (ve_var 2)) (vg_name (i := 7) sc_law.nd rfl (by first | exact .inl rfl | exact .inr rfl)) (vss_one (vs_set (i := 5) sc_law.nd rfl (by first | exact .inl rfl | exact .inr rfl) (ve_op ov_add (ve_var 5) (ve_fz (vn_listOf (by rfl) T.n_list (by decide +kernel) (ve_var 7)))))))
      (vss_cons (vs_for PassesOwn.never rfl (vi_range1 (by rfl) T.n_range (ve_op ov_add (ve_callB (cv_len) (by rfl) T.n_len (by decide +kernel) (va_cons (ve_var 5) (va_nil))) (ve_int))) (vg_name (i := 8) sc_law.nd rfl (by first | exact .inl rfl | exact .inr rfl)) (vss_cons (vs_setLc (i := 9) (f := vFz) RN.fz (own := [("row", 7)]) rfl sc_law.nd rfl rfl (vi_seq (ve_var 4)) (blkOk_by (by rfl)) (fun _ _ _ _ _ => vg_name (i := 7) sc_law.nd rfl (by first | exact .inl rfl | exact .inr rfl)) (fun _ _ _ _ _ => vts_one (vt_cmp (ov_eq hu4) (ve_callB (cv_sum rfl) (by rfl) T.n_sum (by decide +kernel) (va_cons (ve_var 7) (va_nil))) (ve_var 8) (by first | rfl | exact nobehind _ (by decide) (by decide)))) (fun _ _ _ _ _ => ve_tup (va_cons (ve_neg (ve_callB (cv_sum rfl) (by rfl) T.n_sum (by decide +kernel) (va_cons (ve_fz (vn_lc (own := [("k", 11)]) rfl sc_law.nd (vi_range1 (by rfl) T.n_range (ve_callB (cv_len) (by rfl) T.n_len (by decide +kernel) (va_cons (ve_var 7) (va_nil)))) (blkOk_by (by rfl)) (fun _ _ _ _ _ => vg_name (i := 11) sc_law.nd rfl (by first | exact .inl rfl | exact .inr rfl)) (fun _ _ _ _ _ => vts_nil) (fun _ _ _ _ _ => ve_callB (cv_sum rfl) (by rfl) T.n_sum (by decide +kernel) (va_cons (ve_slice (ve_sub hu5 (ve_var 2) (ve_var 11)) (vo_none) (vo_some (ve_sub hu5 (ve_var 7) (ve_var 11)))) (va_nil))))) (va_nil)))) (va_cons (ve_var 7) (va_nil)))))
      (vss_cons (vs_set (i := 10) sc_law.nd rfl (by first | exact .inl rfl | exact .inr rfl) (ve_callB (cv_min rfl hu5) (by rfl) T.n_min (by decide +kernel) (va_cons (ve_var 9) (va_nil))))
      (vss_cons (vs_if ((vw_or (vt_cmp (ov_ne hu4) (ve_def ((ok__law_asked T TB).mono (by decide)) hr (by rfl) T.D__law_asked.g T.D__law_asked.F.kp (bd__law_asked T.D__law_asked.F) (va_cons (ve_int) (va_cons (ve_var 2) (va_cons (ve_var 8) (va_nil))))) (ve_sub hu5 (ve_var 10) (ve_int)) (by first | rfl | exact nobehind _ (by decide) (by decide))) (vw_or (vt_cmp (ov_ne hu4) (ve_def ((ok__law_asked T TB).mono (by decide)) hr (by rfl) T.D__law_asked.g T.D__law_asked.F.kp (bd__law_asked T.D__law_asked.F) (va_cons (ve_int) (va_cons (ve_var 2) (va_cons (ve_var 8) (va_nil))))) (ve_neg (ve_sub hu5 (ve_var 10) (ve_int))) (by first | rfl | exact nobehind _ (by decide) (by decide))) (vw_or1 (vt_cmp (ov_ne hu4) (ve_neg (ve_sub hu5 (ve_var 10) (ve_int))) (ve_callB (cv_sum rfl) (by rfl) T.n_sum (by decide +kernel) (va_cons (ve_slice (ve_revS (ve_fz (vn_sorted hu7 (by rfl) T.n_sorted (ve_var 5)))) (vo_none) (vo_some (ve_var 8))) (va_nil))) (by first | rfl | exact nobehind _ (by decide) (by decide)))))).vt) (vss_one (vs_ret (ve_bl))) (vss_nil))
      (vss_cons (vs_expr (ve_mth PySem.F.plainAttrs_list PySem.F.slot_list_append PySem.F.type_list_append mv_append (ve_var 6) (va_cons (ve_neg (ve_sub hu5 (ve_var 10) (ve_int))) (va_nil))))
      (vss_cons (vs_set (i := 7) sc_law.nd rfl (by first | exact .inl rfl | exact .inr rfl) (ve_sub hu5 (ve_var 9) (ve_def ((ok__law_draw T TB).mono (by decide)) hr (by rfl) T.D__law_draw.g T.D__law_draw.F.kp (bd__law_draw T.D__law_draw.F) (va_cons (ve_var 1) (va_cons (ve_callB (cv_len) (by rfl) T.n_len (by decide +kernel) (va_cons (ve_var 9) (va_nil))) (va_nil))))))
      (vss_one (vs_if ((vw_or (vt_cmp (ov_ne hu4) (ve_def ((ok_brings T TB).mono (by decide)) hr (by rfl) T.D_brings.g T.D_brings.F.kp (bd_brings T.D_brings.F) (va_cons (ve_var 2) (va_cons (ve_sub hu5 (ve_var 7) (ve_int)) (va_nil)))) (ve_neg (ve_sub hu5 (ve_var 7) (ve_int))) (by first | rfl | exact nobehind _ (by decide) (by decide))) (vw_or1 (vt_not (vt_tru (ve_def ((ok__law_int T TB).mono (by decide)) hr (by rfl) T.D__law_int.g T.D__law_int.F.kp (bd__law_int T.D__law_int.F) (va_cons (ve_def ((ok_brings T TB).mono (by decide)) hr (by rfl) T.D_brings.g T.D_brings.F.kp (bd_brings T.D_brings.F) (va_cons (ve_var 2) (va_cons (ve_sub hu5 (ve_var 7) (ve_int)) (va_nil)))) (va_nil))))))).vt) (vss_one (vs_ret (ve_bl))) (vss_nil)))))))))
      (vss_cons (vs_if (vt_cmp (ov_ne hu4) (ve_fz (vn_lc (own := [("k", 11)]) rfl sc_law.nd (vi_range2 (by rfl) T.n_range (ve_int) (ve_callB (cv_len) (by rfl) T.n_len (by decide +kernel) (va_cons (ve_var 6) (va_nil)))) (blkOk_by (by rfl)) (fun _ _ _ _ _ => vg_name (i := 11) sc_law.nd rfl (by first | exact .inl rfl | exact .inr rfl)) (fun _ _ _ _ _ => vts_one (vt_cmp (ov_gt hu4) (ve_op ov_sub (ve_sub hu5 (ve_var 6) (ve_var 11)) (ve_sub hu5 (ve_var 6) (ve_op ov_sub (ve_var 11) (ve_int)))) (ve_op ov_sub (ve_sub hu5 (ve_var 6) (ve_op ov_sub (ve_var 11) (ve_int))) (ve_sub hu5 (ve_var 6) (ve_op ov_sub (ve_var 11) (ve_int)))) (by first | rfl | exact nobehind _ (by decide) (by decide)))) (fun _ _ _ _ _ => ve_var 11))) (ve_fz (vn_lst (va_nil))) (by first | rfl | exact nobehind _ (by decide) (by decide))) (vss_one (vs_ret (ve_bl))) (vss_nil))
      (vss_one (vs_ret (ve_cmp (ov_eq hu4) (ve_fz (vn_lc (own := [("what", 12), ("nights", 8)]) rfl sc_law.nd (vi_seq (ve_fz (vn_lst (va_cons (ve_tup (va_cons (ve_int) (va_cons (ve_neg (ve_int)) (va_nil)))) (va_cons (ve_tup (va_cons (ve_int) (va_cons (ve_op ov_add (ve_callB (cv_len) (by rfl) T.n_len (by decide +kernel) (va_cons (ve_var 5) (va_nil))) (ve_int)) (va_nil)))) (va_cons (ve_tup (va_cons (ve_int) (va_cons (ve_op ov_add (ve_callB (cv_len) (by rfl) T.n_len (by decide +kernel) (va_cons (ve_var 5) (va_nil))) (ve_int)) (va_nil)))) (va_cons (ve_tup (va_cons (ve_int) (va_cons (ve_bl) (va_nil)))) (va_nil)))))))) (blkOk_by (by rfl)) (fun _ _ _ _ _ => vg_tup rfl (vgs_cons (vg_name (i := 12) sc_law.nd rfl (by first | exact .inl rfl | exact .inr rfl)) (vgs_cons (vg_name (i := 8) sc_law.nd rfl (by first | exact .inl rfl | exact .inr rfl)) (vgs_nil)))) (fun _ _ _ _ _ => vts_nil) (fun _ _ _ _ _ => ve_def ((ok__law_asked T TB).mono (by decide)) hr (by rfl) T.D__law_asked.g T.D__law_asked.F.kp (bd__law_asked T.D__law_asked.F) (va_cons (ve_var 12) (va_cons (ve_var 2) (va_cons (ve_var 8) (va_nil))))))) (ve_fz (vn_rep (vn_lst (va_cons (ve_str) (va_nil))) (ve_int))) (by first | rfl | exact nobehind _ (by decide) (by decide)))))))))))))

end K52

namespace K52
open PySem PySem.Spec PyProof.Rows L2 VL
set_option maxHeartbeats 0 in
theorem all_mk {w : World} {q : Program} {K : PySem.W.Frag} {h : Heap} {mg : Str → Option Value} {fa : Addr} (X : K.In h) (G : h.Ns mainGlobals mg) (hfa : mg "law" = some (.ref fa))
    (h0 : DefI K q "is_number" (topS 8))
    (h1 : DefI K q "are_takings" (topS 13))
    (h2 : DefI K q "brings" (topS 14))
    (h3 : DefI K q "check" (topS 15))
    (h4 : DefI K q "best_sum" (topS 16))
    (h5 : DefI K q "best_counts" (topS 17))
    (h6 : DefI K q "_law_open" (topS 19))
    (h7 : DefI K q "_law_mixed" (topS 20))
    (h8 : DefI K q "_law_draw" (topS 21))
    (h9 : DefI K q "_law_told" (topS 22))
    (h10 : DefI K q "_law_int" (topS 23))
    (h11 : DefI K q "_law_takings" (topS 24))
    (h12 : DefI K q "_law_counts" (topS 25))
    (h13 : DefI K q "_law_asked" (topS 26))
    (h14 : DefI K q "law" (topS 27))
    (z_abs : PySem.W.nsIn K mainGlobals "abs" = some none)
    (z_all : PySem.W.nsIn K mainGlobals "all" = some none)
    (z_bool : PySem.W.nsIn K mainGlobals "bool" = some none)
    (z_enumerate : PySem.W.nsIn K mainGlobals "enumerate" = some none)
    (z_int : PySem.W.nsIn K mainGlobals "int" = some none)
    (z_isinstance : PySem.W.nsIn K mainGlobals "isinstance" = some none)
    (z_len : PySem.W.nsIn K mainGlobals "len" = some none)
    (z_list : PySem.W.nsIn K mainGlobals "list" = some none)
    (z_min : PySem.W.nsIn K mainGlobals "min" = some none)
    (z_range : PySem.W.nsIn K mainGlobals "range" = some none)
    (z_sorted : PySem.W.nsIn K mainGlobals "sorted" = some none)
    (z_sum : PySem.W.nsIn K mainGlobals "sum" = some none)
    (z_tuple : PySem.W.nsIn K mainGlobals "tuple" = some none)
    (z_zip : PySem.W.nsIn K mainGlobals "zip" = some none)
    (c_MOST_NIGHTS : ∃ t, PySem.W.nsIn K mainGlobals "MOST_NIGHTS" = some (some (.int 8 t)))
    (c_MOST_PLAYS : ∃ t, PySem.W.nsIn K mainGlobals "MOST_PLAYS" = some (some (.int 6 t)))
    (c_MOST_TAKEN : ∃ t, PySem.W.nsIn K mainGlobals "MOST_TAKEN" = some (some (.int 1000 t)))
    {C_OutOfRange : Addr} (e_OutOfRange : ExI K "OutOfRange" C_OutOfRange)
    {C_Malformed : Addr} (e_Malformed : ExI K "Malformed" C_Malformed)
    {C_NotThere : Addr} (e_NotThere : ExI K "NotThere" C_NotThere)
    {C_Refused : Addr} (e_Refused : ExI K "Refused" C_Refused)
    {C_TooMuch : Addr} (e_TooMuch : ExI K "TooMuch" C_TooMuch)
    {C_StageError : Addr} (e_StageError : ExI K "StageError" C_StageError)
    (kk_OutOfRange_OutOfRange : PySem.W.kitOne K (.ref C_OutOfRange) (.ref C_OutOfRange) = some true)
    (kk_OutOfRange_Malformed : PySem.W.kitOne K (.ref C_OutOfRange) (.ref C_Malformed) = some false)
    (kk_OutOfRange_NotThere : PySem.W.kitOne K (.ref C_OutOfRange) (.ref C_NotThere) = some false)
    (kk_OutOfRange_Refused : PySem.W.kitOne K (.ref C_OutOfRange) (.ref C_Refused) = some false)
    (kk_OutOfRange_TooMuch : PySem.W.kitOne K (.ref C_OutOfRange) (.ref C_TooMuch) = some false)
    (kk_OutOfRange_StageError : PySem.W.kitOne K (.ref C_OutOfRange) (.ref C_StageError) = some true)
    (sb_OutOfRange : PySem.W.subIn K (.ref C_OutOfRange) (.ref C_StageError) = some true)
    (tabs : (tabsOf K).all (fun p => [(h0.c, h0.P), (h1.c, h1.P), (h2.c, h2.P), (h3.c, h3.P), (h4.c, h4.P), (h5.c, h5.P), (h6.c, h6.P), (h7.c, h7.P), (h8.c, h8.P), (h9.c, h9.P), (h10.c, h10.P), (h11.c, h11.P), (h12.c, h12.P), (h13.c, h13.P), (h14.c, h14.P)].contains p) = true) :
    (∀ p ∈ tabsOf K, (∃ x d', (recsOf q).find? (fun e => e.name == x) = some d' ∧ PySem.W.tabIn K x = some p) ∧ K.lookup p.2 = none) ∧
    ∃ fd : FuncData, (∀ (s : Shared) (v : Value), BindsTo s fd ⟨[v], []⟩ [("script", v)]) ∧ ∀ base : Heap, K.In base → base.Ns mainGlobals mg → (∀ p ∈ tabsOf K, GxR.TabB base mg p.1 p.2) → FnOk PySem.Challenge.rw_curtaintime_k52_whole_takings_of_nights.prog w K mg base CX0 6 fa fd ["script"] (spV K noX 1 m_law) := by
  have e := hfa.symm.trans (PySem.W.mg_of X G h14.ha)
  cases e
  let T : Top K mg := {
    D_is_number := h0.at X G
    D_are_takings := h1.at X G
    D_brings := h2.at X G
    D_check := h3.at X G
    D_best_sum := h4.at X G
    D_best_counts := h5.at X G
    D__law_open := h6.at X G
    D__law_mixed := h7.at X G
    D__law_draw := h8.at X G
    D__law_told := h9.at X G
    D__law_int := h10.at X G
    D__law_takings := h11.at X G
    D__law_counts := h12.at X G
    D__law_asked := h13.at X G
    D_law := h14.at X G
    n_abs := PySem.W.mg_none_of X G z_abs
    n_all := PySem.W.mg_none_of X G z_all
    n_bool := PySem.W.mg_none_of X G z_bool
    n_enumerate := PySem.W.mg_none_of X G z_enumerate
    n_int := PySem.W.mg_none_of X G z_int
    n_isinstance := PySem.W.mg_none_of X G z_isinstance
    n_len := PySem.W.mg_none_of X G z_len
    n_list := PySem.W.mg_none_of X G z_list
    n_min := PySem.W.mg_none_of X G z_min
    n_range := PySem.W.mg_none_of X G z_range
    n_sorted := PySem.W.mg_none_of X G z_sorted
    n_sum := PySem.W.mg_none_of X G z_sum
    n_tuple := PySem.W.mg_none_of X G z_tuple
    n_zip := PySem.W.mg_none_of X G z_zip
    k_MOST_NIGHTS := (let ⟨t, h⟩ := c_MOST_NIGHTS; ⟨t, PySem.W.mg_of X G h⟩)
    k_MOST_PLAYS := (let ⟨t, h⟩ := c_MOST_PLAYS; ⟨t, PySem.W.mg_of X G h⟩)
    k_MOST_TAKEN := (let ⟨t, h⟩ := c_MOST_TAKEN; ⟨t, PySem.W.mg_of X G h⟩)
    x_OutOfRange := e_OutOfRange.at X G
    x_Malformed := e_Malformed.at X G
    x_NotThere := e_NotThere.at X G
    x_Refused := e_Refused.at X G
    x_TooMuch := e_TooMuch.at X G
    x_StageError := e_StageError.at X G
    kk_OutOfRange_OutOfRange := kk_OutOfRange_OutOfRange
    kk_OutOfRange_Malformed := kk_OutOfRange_Malformed
    kk_OutOfRange_NotThere := kk_OutOfRange_NotThere
    kk_OutOfRange_Refused := kk_OutOfRange_Refused
    kk_OutOfRange_TooMuch := kk_OutOfRange_TooMuch
    kk_OutOfRange_StageError := kk_OutOfRange_StageError
    xm_OutOfRange := ExI.exm e_StageError sb_OutOfRange }
  exact ⟨tabs_good tabs (tabs_cons h0.good (tabs_cons h1.good (tabs_cons h2.good (tabs_cons h3.good (tabs_cons h4.good (tabs_cons h5.good (tabs_cons h6.good (tabs_cons h7.good (tabs_cons h8.good (tabs_cons h9.good (tabs_cons h10.good (tabs_cons h11.good (tabs_cons h12.good (tabs_cons h13.good (tabs_cons h14.good tabs_nil))))))))))))))), T.D_law.d, fun s v => .of_eq rfl, fun base _ _ TB => ok_law T TB⟩
end K52
open PySem PySem.W PyProof.Rows
set_option maxHeartbeats 0 in
theorem PySem.Challenge.cw_curtaintime_k52_whole_takings_of_nights_holds : PySem.Challenge.rw_curtaintime_k52_whole_takings_of_nights.Holds := by
  w_on; o_law; k_head; (case hw => w_witness2)
  k_fill
  refine VL.walk_ofV (l := PySem.Challenge.rw_curtaintime_k52_whole_takings_of_nights) (n := 63) (k := 6) (x := "script") (m := K52.m_law) rfl (by decide) rfl ⟨rfl, by decide, by decide⟩ (fun w h Y => PySem.W.kIn_of Y) ?F (fun ns hl => K52.law_math ns hl)
  case F =>
    intro w mg fa h KX G hmg
    refine' K52.all_mk KX G hmg ?h0 ?h1 ?h2 ?h3 ?h4 ?h5 ?h6 ?h7 ?h8 ?h9 ?h10 ?h11 ?h12 ?h13 ?h14 ?z_abs ?z_all ?z_bool ?z_enumerate ?z_int ?z_isinstance ?z_len ?z_list ?z_min ?z_range ?z_sorted ?z_sum ?z_tuple ?z_zip ?c_MOST_NIGHTS ?c_MOST_PLAYS ?c_MOST_TAKEN ?e_OutOfRange ?e_Malformed ?e_NotThere ?e_Refused ?e_TooMuch ?e_StageError ?kk_OutOfRange_OutOfRange ?kk_OutOfRange_Malformed ?kk_OutOfRange_NotThere ?kk_OutOfRange_Refused ?kk_OutOfRange_TooMuch ?kk_OutOfRange_StageError ?sb_OutOfRange ?tabs
    (case h0 => (refine' VL.DefI.of ?a0 ?l0 ?h0 ?k0 ?q0 ?t0 ?n0 ?r0; (case a0 => k_is); (case l0 => k_is); (case h0 => k_is); (case k0 => k_is); (case q0 => k_is); (case t0 => rfl); (case n0 => rfl); (case r0 => rfl)))
    (case h1 => (refine' VL.DefI.of ?a1 ?l1 ?h1 ?k1 ?q1 ?t1 ?n1 ?r1; (case a1 => k_is); (case l1 => k_is); (case h1 => k_is); (case k1 => k_is); (case q1 => k_is); (case t1 => rfl); (case n1 => rfl); (case r1 => rfl)))
    (case h2 => (refine' VL.DefI.of ?a2 ?l2 ?h2 ?k2 ?q2 ?t2 ?n2 ?r2; (case a2 => k_is); (case l2 => k_is); (case h2 => k_is); (case k2 => k_is); (case q2 => k_is); (case t2 => rfl); (case n2 => rfl); (case r2 => rfl)))
    (case h3 => (refine' VL.DefI.of ?a3 ?l3 ?h3 ?k3 ?q3 ?t3 ?n3 ?r3; (case a3 => k_is); (case l3 => k_is); (case h3 => k_is); (case k3 => k_is); (case q3 => k_is); (case t3 => rfl); (case n3 => rfl); (case r3 => rfl)))
    (case h4 => (refine' VL.DefI.of ?a4 ?l4 ?h4 ?k4 ?q4 ?t4 ?n4 ?r4; (case a4 => k_is); (case l4 => k_is); (case h4 => k_is); (case k4 => k_is); (case q4 => k_is); (case t4 => rfl); (case n4 => rfl); (case r4 => rfl)))
    (case h5 => (refine' VL.DefI.of ?a5 ?l5 ?h5 ?k5 ?q5 ?t5 ?n5 ?r5; (case a5 => k_is); (case l5 => k_is); (case h5 => k_is); (case k5 => k_is); (case q5 => k_is); (case t5 => rfl); (case n5 => rfl); (case r5 => rfl)))
    (case h6 => (refine' VL.DefI.of ?a6 ?l6 ?h6 ?k6 ?q6 ?t6 ?n6 ?r6; (case a6 => k_is); (case l6 => k_is); (case h6 => k_is); (case k6 => k_is); (case q6 => k_is); (case t6 => rfl); (case n6 => rfl); (case r6 => rfl)))
    (case h7 => (refine' VL.DefI.of ?a7 ?l7 ?h7 ?k7 ?q7 ?t7 ?n7 ?r7; (case a7 => k_is); (case l7 => k_is); (case h7 => k_is); (case k7 => k_is); (case q7 => k_is); (case t7 => rfl); (case n7 => rfl); (case r7 => rfl)))
    (case h8 => (refine' VL.DefI.of ?a8 ?l8 ?h8 ?k8 ?q8 ?t8 ?n8 ?r8; (case a8 => k_is); (case l8 => k_is); (case h8 => k_is); (case k8 => k_is); (case q8 => k_is); (case t8 => rfl); (case n8 => rfl); (case r8 => rfl)))
    (case h9 => (refine' VL.DefI.of ?a9 ?l9 ?h9 ?k9 ?q9 ?t9 ?n9 ?r9; (case a9 => k_is); (case l9 => k_is); (case h9 => k_is); (case k9 => k_is); (case q9 => k_is); (case t9 => rfl); (case n9 => rfl); (case r9 => rfl)))
    (case h10 => (refine' VL.DefI.of ?a10 ?l10 ?h10 ?k10 ?q10 ?t10 ?n10 ?r10; (case a10 => k_is); (case l10 => k_is); (case h10 => k_is); (case k10 => k_is); (case q10 => k_is); (case t10 => rfl); (case n10 => rfl); (case r10 => rfl)))
    (case h11 => (refine' VL.DefI.of ?a11 ?l11 ?h11 ?k11 ?q11 ?t11 ?n11 ?r11; (case a11 => k_is); (case l11 => k_is); (case h11 => k_is); (case k11 => k_is); (case q11 => k_is); (case t11 => rfl); (case n11 => rfl); (case r11 => rfl)))
    (case h12 => (refine' VL.DefI.of ?a12 ?l12 ?h12 ?k12 ?q12 ?t12 ?n12 ?r12; (case a12 => k_is); (case l12 => k_is); (case h12 => k_is); (case k12 => k_is); (case q12 => k_is); (case t12 => rfl); (case n12 => rfl); (case r12 => rfl)))
    (case h13 => (refine' VL.DefI.of ?a13 ?l13 ?h13 ?k13 ?q13 ?t13 ?n13 ?r13; (case a13 => k_is); (case l13 => k_is); (case h13 => k_is); (case k13 => k_is); (case q13 => k_is); (case t13 => rfl); (case n13 => rfl); (case r13 => rfl)))
    (case h14 => (refine' VL.DefI.of ?a14 ?l14 ?h14 ?k14 ?q14 ?t14 ?n14 ?r14; (case a14 => k_is); (case l14 => k_is); (case h14 => k_is); (case k14 => k_is); (case q14 => k_is); (case t14 => rfl); (case n14 => rfl); (case r14 => rfl)))
    (case z_abs => k_is)
    (case z_all => k_is)
    (case z_bool => k_is)
    (case z_enumerate => k_is)
    (case z_int => k_is)
    (case z_isinstance => k_is)
    (case z_len => k_is)
    (case z_list => k_is)
    (case z_min => k_is)
    (case z_range => k_is)
    (case z_sorted => k_is)
    (case z_sum => k_is)
    (case z_tuple => k_is)
    (case z_zip => k_is)
    (case c_MOST_NIGHTS => (refine' VL.KInt.of ?uMOST_NIGHTS; (case uMOST_NIGHTS => k_is)))
    (case c_MOST_PLAYS => (refine' VL.KInt.of ?uMOST_PLAYS; (case uMOST_PLAYS => k_is)))
    (case c_MOST_TAKEN => (refine' VL.KInt.of ?uMOST_TAKEN; (case uMOST_TAKEN => k_is)))
    (case e_OutOfRange => (refine' VL.ExI.of ?eOutOfRange0 ?eOutOfRange1 ?eOutOfRange2 ?eOutOfRange3 ?eOutOfRange4 ?eOutOfRange5 ?eOutOfRange6 ?eOutOfRange7 ?eOutOfRange8 ?eOutOfRange9 ?eOutOfRange10 ?eOutOfRange11; (case eOutOfRange0 => k_is); (case eOutOfRange1 => k_exc); (case eOutOfRange2 => k_is); (case eOutOfRange3 => k_is); (case eOutOfRange4 => k_is); (case eOutOfRange5 => k_is); (case eOutOfRange6 => k_is); (case eOutOfRange7 => k_is); (case eOutOfRange8 => k_is); (case eOutOfRange9 => k_is); (case eOutOfRange10 => k_is); (case eOutOfRange11 => k_is)))
    (case e_Malformed => (refine' VL.ExI.of ?eMalformed0 ?eMalformed1 ?eMalformed2 ?eMalformed3 ?eMalformed4 ?eMalformed5 ?eMalformed6 ?eMalformed7 ?eMalformed8 ?eMalformed9 ?eMalformed10 ?eMalformed11; (case eMalformed0 => k_is); (case eMalformed1 => k_exc); (case eMalformed2 => k_is); (case eMalformed3 => k_is); (case eMalformed4 => k_is); (case eMalformed5 => k_is); (case eMalformed6 => k_is); (case eMalformed7 => k_is); (case eMalformed8 => k_is); (case eMalformed9 => k_is); (case eMalformed10 => k_is); (case eMalformed11 => k_is)))
    (case e_NotThere => (refine' VL.ExI.of ?eNotThere0 ?eNotThere1 ?eNotThere2 ?eNotThere3 ?eNotThere4 ?eNotThere5 ?eNotThere6 ?eNotThere7 ?eNotThere8 ?eNotThere9 ?eNotThere10 ?eNotThere11; (case eNotThere0 => k_is); (case eNotThere1 => k_exc); (case eNotThere2 => k_is); (case eNotThere3 => k_is); (case eNotThere4 => k_is); (case eNotThere5 => k_is); (case eNotThere6 => k_is); (case eNotThere7 => k_is); (case eNotThere8 => k_is); (case eNotThere9 => k_is); (case eNotThere10 => k_is); (case eNotThere11 => k_is)))
    (case e_Refused => (refine' VL.ExI.of ?eRefused0 ?eRefused1 ?eRefused2 ?eRefused3 ?eRefused4 ?eRefused5 ?eRefused6 ?eRefused7 ?eRefused8 ?eRefused9 ?eRefused10 ?eRefused11; (case eRefused0 => k_is); (case eRefused1 => k_exc); (case eRefused2 => k_is); (case eRefused3 => k_is); (case eRefused4 => k_is); (case eRefused5 => k_is); (case eRefused6 => k_is); (case eRefused7 => k_is); (case eRefused8 => k_is); (case eRefused9 => k_is); (case eRefused10 => k_is); (case eRefused11 => k_is)))
    (case e_TooMuch => (refine' VL.ExI.of ?eTooMuch0 ?eTooMuch1 ?eTooMuch2 ?eTooMuch3 ?eTooMuch4 ?eTooMuch5 ?eTooMuch6 ?eTooMuch7 ?eTooMuch8 ?eTooMuch9 ?eTooMuch10 ?eTooMuch11; (case eTooMuch0 => k_is); (case eTooMuch1 => k_exc); (case eTooMuch2 => k_is); (case eTooMuch3 => k_is); (case eTooMuch4 => k_is); (case eTooMuch5 => k_is); (case eTooMuch6 => k_is); (case eTooMuch7 => k_is); (case eTooMuch8 => k_is); (case eTooMuch9 => k_is); (case eTooMuch10 => k_is); (case eTooMuch11 => k_is)))
    (case e_StageError => (refine' VL.ExI.of ?eStageError0 ?eStageError1 ?eStageError2 ?eStageError3 ?eStageError4 ?eStageError5 ?eStageError6 ?eStageError7 ?eStageError8 ?eStageError9 ?eStageError10 ?eStageError11; (case eStageError0 => k_is); (case eStageError1 => k_exc); (case eStageError2 => k_is); (case eStageError3 => k_is); (case eStageError4 => k_is); (case eStageError5 => k_is); (case eStageError6 => k_is); (case eStageError7 => k_is); (case eStageError8 => k_is); (case eStageError9 => k_is); (case eStageError10 => k_is); (case eStageError11 => k_is)))
    (case kk_OutOfRange_OutOfRange => kit_is)
    (case kk_OutOfRange_Malformed => kit_is)
    (case kk_OutOfRange_NotThere => kit_is)
    (case kk_OutOfRange_Refused => kit_is)
    (case kk_OutOfRange_TooMuch => kit_is)
    (case kk_OutOfRange_StageError => kit_is)
    (case sb_OutOfRange => k_is)
    (case tabs => rfl)

