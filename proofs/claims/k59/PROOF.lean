import PyProof.Rows.All
import PySem.Challenge.RW_curtaintime_k59_whole_meeting_places
import Wide.All
import OpenK.AllK
import Wide.FinOn
import HandS.ForMost
import HandS.Deep
import HandS.Wide
import KE.DataMinMax
import KE.SortData
import KE.DataAny
import KE.DataEq
import KE.DataFind
import KE.DataIsa
import HandS.TupAny
import HandS.TupLe
import HandS.Style
import PyProof.SumAny
import HandS.IsInst
import HandS.TryOnly
import HandS.Small
import HandS.TupMul
set_option Elab.async false
set_option linter.all false
set_option maxRecDepth 100000
/-! VL: what a Python text does, by values: a def's meaning as a plain Lean function over data. -/
namespace VL
open PySem PySem.Spec PyProof.Rows L2


/-- a key as data -/
def keyP : Key → PyData
  | .inl i => .int i
  | .inr x => .str x
def keyT (l : List Key) : PyData := .tuple (l.map keyP)

/-- a value v stands for d; F: what never changes any more -/
inductive Has (K : PySem.W.Frag) (F : Hp) : PyData → V → Prop
  | non : Has K F .none .non
  | bl (b : Bool) : Has K F (.bool b) (.bl b)
  | int (i : Int) : Has K F (.int i) (.int i)
  | str (x : Str) : Has K F (.str x) (.str x)
  | tup {a : Addr} {xs : List V} {ds : List PyData} : F a = some (.tup xs) → xs.length = ds.length → (∀ (i : Nat) d v, ds[i]? = some d → xs[i]? = some v → Has K F d v) → Has K F (.tuple ds) (.ref a)
  | lst {a : Addr} {xs : List V} {ds : List PyData} : SqL K F a xs → xs.length = ds.length → (∀ (i : Nat) d v, ds[i]? = some d → xs[i]? = some v → Has K F d v) → Has K F (.list ds) (.ref a)
  | dK {a : Addr} {xs : List (Key × V)} {ds : List (PyData × PyData)} : Rd F a (.dK xs) → ds.map (·.1) = xs.map (fun p => keyP p.1) → (∀ (i : Nat) d v, ds[i]? = some d → xs[i]? = some v → Has K F d.2 v.2) → Has K F (.dict ds) (.ref a)
  | dT {a : Addr} {xs : List (List Key × V)} {ds : List (PyData × PyData)} : Rd F a (.dT xs) → ds.map (·.1) = xs.map (fun p => keyT p.1) → (∀ (i : Nat) d v, ds[i]? = some d → xs[i]? = some v → Has K F d.2 v.2) → Has K F (.dict ds) (.ref a)

/-- many values -/
def HasL (K : PySem.W.Frag) (F : Hp) (ds : List PyData) (xs : List V) : Prop := xs.length = ds.length ∧ ∀ (i : Nat) d v, ds[i]? = some d → xs[i]? = some v → Has K F d v
section
variable {K : PySem.W.Frag} {F F' : Hp}
theorem HasL.nil : HasL K F [] [] := ⟨rfl, fun i d v h => by simp at h⟩
theorem HasL.cons {d : PyData} {ds : List PyData} {v : V} {xs : List V} (h : Has K F d v) (t : HasL K F ds xs) : HasL K F (d :: ds) (v :: xs) := by
  refine ⟨by simp [t.1], fun i e w he hw => ?_⟩
  cases i with
  | zero => simp at he hw; subst he; subst hw; exact h
  | succ i => exact t.2 i e w (by simpa using he) (by simpa using hw)
theorem HasL.uncons {d : PyData} {ds : List PyData} {xs : List V} (t : HasL K F (d :: ds) xs) : ∃ v r, xs = v :: r ∧ Has K F d v ∧ HasL K F ds r := by
  cases xs with
  | nil => exact absurd t.1 (by simp)
  | cons v r => exact ⟨v, r, rfl, t.2 0 d v rfl rfl, by simpa using t.1, fun i e w he hw => t.2 (i + 1) e w (by simpa using he) (by simpa using hw)⟩
theorem HasL.nil_inv {xs : List V} (t : HasL K F [] xs) : xs = [] := List.eq_nil_of_length_eq_zero t.1
theorem HasL.get {ds : List PyData} {xs : List V} (t : HasL K F ds xs) {i : Nat} {d : PyData} (h : ds[i]? = some d) : ∃ v, xs[i]? = some v ∧ Has K F d v := by
  obtain ⟨hi, _⟩ := List.getElem?_eq_some_iff.mp h
  have hx : i < xs.length := by rw [t.1]; exact hi
  exact ⟨xs[i], List.getElem?_eq_getElem hx, t.2 i d _ h (List.getElem?_eq_getElem hx)⟩
theorem HasL.getV {ds : List PyData} {xs : List V} (t : HasL K F ds xs) {i : Nat} {v : V} (h : xs[i]? = some v) : ∃ d, ds[i]? = some d ∧ Has K F d v := by
  obtain ⟨hi, _⟩ := List.getElem?_eq_some_iff.mp h
  have hx : i < ds.length := by rw [← t.1]; exact hi
  exact ⟨ds[i], List.getElem?_eq_getElem hx, t.2 i _ v (List.getElem?_eq_getElem hx) h⟩
theorem HasL.append {ds es : List PyData} {xs ys : List V} (a : HasL K F ds xs) (b : HasL K F es ys) : HasL K F (ds ++ es) (xs ++ ys) := by
  refine ⟨by simp [a.1, b.1], fun i d v hd hv => ?_⟩
  by_cases hi : i < ds.length
  · rw [List.getElem?_append_left hi] at hd
    rw [List.getElem?_append_left (by rw [a.1]; exact hi)] at hv
    exact a.2 i d v hd hv
  · rw [List.getElem?_append_right (by omega)] at hd
    rw [List.getElem?_append_right (by rw [a.1]; omega), a.1] at hv
    exact b.2 _ d v hd hv
theorem HasL.take {ds : List PyData} {xs : List V} (a : HasL K F ds xs) (n : Nat) : HasL K F (ds.take n) (xs.take n) := by
  refine ⟨by simp [a.1], fun i d v hd hv => ?_⟩
  rw [List.getElem?_take] at hd hv
  split at hd
  · rename_i h; rw [if_pos h] at hv; exact a.2 i d v hd hv
  · cases hd
theorem HasL.drop {ds : List PyData} {xs : List V} (a : HasL K F ds xs) (n : Nat) : HasL K F (ds.drop n) (xs.drop n) := by
  refine ⟨by simp [a.1], fun i d v hd hv => ?_⟩
  rw [List.getElem?_drop] at hd hv
  exact a.2 _ d v hd hv
theorem HasL.reverse {ds : List PyData} {xs : List V} (a : HasL K F ds xs) : HasL K F ds.reverse xs.reverse := by
  refine ⟨by simp [a.1], fun i d v hd hv => ?_⟩
  obtain ⟨h1, e1⟩ := List.getElem?_eq_some_iff.mp hd
  obtain ⟨h2, e2⟩ := List.getElem?_eq_some_iff.mp hv
  rw [List.getElem_reverse] at e1 e2
  have h3 : i < ds.length := by simpa using h1
  have h4 : i < xs.length := by simpa using h2
  refine a.2 (ds.length - 1 - i) d v ?_ ?_
  · rw [List.getElem?_eq_getElem (by omega), e1]
  · have e : ds.length - 1 - i = xs.length - 1 - i := by rw [a.1]
    rw [e, List.getElem?_eq_getElem (by omega), e2]
theorem HasL.set {ds : List PyData} {xs : List V} (a : HasL K F ds xs) {d : PyData} {v : V} (h : Has K F d v) (n : Nat) : HasL K F (ds.set n d) (xs.set n v) := by
  refine ⟨by simp [a.1], fun i e w hd hv => ?_⟩
  rw [List.getElem?_set] at hd hv
  split at hd
  · rename_i hn
    rw [if_pos hn] at hv
    split at hd
    · split at hv
      · cases hd; cases hv; exact h
      · cases hv
    · cases hd
  · rename_i hn
    rw [if_neg hn] at hv
    exact a.2 i e w hd hv
theorem HasL.dropLast {ds : List PyData} {xs : List V} (a : HasL K F ds xs) : HasL K F ds.dropLast xs.dropLast := by
  rw [List.dropLast_eq_take, List.dropLast_eq_take, a.1]
  exact a.take _
theorem HasL.eraseIdx {ds : List PyData} {xs : List V} (a : HasL K F ds xs) (n : Nat) : HasL K F (ds.eraseIdx n) (xs.eraseIdx n) := by
  rw [List.eraseIdx_eq_take_drop_succ, List.eraseIdx_eq_take_drop_succ]
  exact (a.take n).append (a.drop (n + 1))
theorem HasL.flat_rep {ds : List PyData} {xs : List V} (a : HasL K F ds xs) : ∀ n : Nat, HasL K F (List.replicate n ds).flatten (List.replicate n xs).flatten
  | 0 => .nil
  | n + 1 => by
    rw [List.replicate_succ, List.replicate_succ, List.flatten_cons, List.flatten_cons]
    exact a.append (a.flat_rep n)
theorem HasL.singleton {d : PyData} {v : V} (h : Has K F d v) : HasL K F [d] [v] := .cons h .nil

theorem seqT_mono {a : Addr} {xs : List V} (e : Same F F') (h : SqT K F a xs) : SqT K F' a xs := by
  rcases h with (h | ⟨o, h⟩) | h
  · exact .inl (.inl (e _ _ h))
  · exact .inl (.inr ⟨o, e _ _ h⟩)
  · exact .inr h
theorem rd_mono {a : Addr} {u : HO} (e : Same F F') (h : Rd F a u) : Rd F' a u := by
  rcases h with h | ⟨o, h⟩
  · exact .inl (e _ _ h)
  · exact .inr ⟨o, e _ _ h⟩
theorem Has.mono (e : Same F F') {d : PyData} {v : V} (h : Has K F d v) : Has K F' d v := by
  induction h with
  | non => exact .non
  | bl b => exact .bl b
  | int i => exact .int i
  | str x => exact .str x
  | tup s l _ ih => exact .tup (e _ _ s) l ih
  | lst s l _ ih => exact .lst (e.seq s) l ih
  | dK s l _ ih => exact .dK (rd_mono e s) l ih
  | dT s l _ ih => exact .dT (rd_mono e s) l ih
theorem HasL.mono (e : Same F F') {ds : List PyData} {xs : List V} (h : HasL K F ds xs) : HasL K F' ds xs := ⟨h.1, fun i d v a b => (h.2 i d v a b).mono e⟩
theorem Has.tup' {a : Addr} {xs : List V} {ds : List PyData} (s : F a = some (.tup xs)) (h : HasL K F ds xs) : Has K F (.tuple ds) (.ref a) := .tup s h.1 h.2
theorem Has.lst' {a : Addr} {xs : List V} {ds : List PyData} (s : SqL K F a xs) (h : HasL K F ds xs) : Has K F (.list ds) (.ref a) := .lst s h.1 h.2
theorem Has.tup_invX {ds : List PyData} {v : V} (h : Has K F (.tuple ds) v) : ∃ a xs, v = .ref a ∧ F a = some (.tup xs) ∧ HasL K F ds xs := by
  cases h with
  | tup s l q => exact ⟨_, _, rfl, s, l, q⟩
theorem Has.tup_inv {ds : List PyData} {v : V} (h : Has K F (.tuple ds) v) : ∃ a xs, v = .ref a ∧ SqT K F a xs ∧ HasL K F ds xs := by
  obtain ⟨a, xs, e, s, l⟩ := h.tup_invX
  exact ⟨a, xs, e, .inl (.inl s), l⟩
theorem Has.lst_inv {ds : List PyData} {v : V} (h : Has K F (.list ds) v) : ∃ a xs, v = .ref a ∧ SqL K F a xs ∧ HasL K F ds xs := by
  cases h with
  | lst s l q => exact ⟨_, _, rfl, s, l, q⟩
theorem Has.int_inv {i : Int} {v : V} (h : Has K F (.int i) v) : v = .int i := by cases h; rfl
theorem Has.bl_inv {i : Bool} {v : V} (h : Has K F (.bool i) v) : v = .bl i := by cases h; rfl
theorem Has.str_inv {i : Str} {v : V} (h : Has K F (.str i) v) : v = .str i := by cases h; rfl
theorem Has.non_inv {v : V} (h : Has K F .none v) : v = .non := by cases h; rfl
end

/-- a value in flight: data, or an object that may still change, by its place in the store -/
inductive Vd where
  | p (d : PyData) | loc (k : Nat)
/-- what the store holds at a place; fz: a thing that changes no more -/
inductive Ob where
  | lst (l : List PyData) | dct (t : Bool) (l : List (PyData × PyData)) | fz (d : PyData)
abbrev Store := List Ob
abbrev Slots := List (Option Vd)

/-- the heap's ghosts: what is frozen, where the store lies, the heap -/
structure Gh where
  F : Hp
  A : List Addr
  H : Hp
def HasV (K : PySem.W.Frag) (g : Gh) : Vd → V → Prop
  | .p d, v => Has K g.F d v
  | .loc k, v => ∃ a, g.A[k]? = some a ∧ v = .ref a
def HasVL (K : PySem.W.Frag) (g : Gh) (ds : List Vd) (xs : List V) : Prop := xs.length = ds.length ∧ ∀ (i : Nat) d v, ds[i]? = some d → xs[i]? = some v → HasV K g d v

/-- a dict's entries; t: its keys are tuples -/
def DctAt (K : PySem.W.Frag) (F : Hp) (ds : List (PyData × PyData)) (o : Option HO) : Bool → Prop
  | false => ∃ xs, o = some (.dK xs) ∧ ds.map (·.1) = xs.map (fun p => keyP p.1) ∧ HasL K F (ds.map (·.2)) (xs.map (·.2))
  | true => ∃ xs, o = some (.dT xs) ∧ ds.map (·.1) = xs.map (fun p => keyT p.1) ∧ HasL K F (ds.map (·.2)) (xs.map (·.2))
def ObAt (K : PySem.W.Frag) (g : Gh) (a : Addr) : Ob → Prop
  | .lst ds => g.F a = none ∧ ∃ xs, g.H a = some (.lst xs) ∧ HasL K g.F ds xs
  | .dct t ds => g.F a = none ∧ DctAt K g.F ds (g.H a) t
  | .fz d => Has K g.F d (.ref a)

structure Wd (K : PySem.W.Frag) (st : Store) (g : Gh) : Prop where
  sub : Same g.F g.H
  nd : g.A.Nodup
  len : g.A.length = st.length
  there : ∀ a ∈ g.A, ∃ o, g.H a = some o
  own : ∀ (k : Nat) a ob, g.A[k]? = some a → st[k]? = some ob → ObAt K g a ob

/-- the slots -/
def Sl (K : PySem.W.Frag) (g : Gh) (ρ : Slots) (σ : L2.St) : Prop := σ.length = ρ.length ∧ ∀ (i : Nat) d, ρ[i]? = some (some d) → ∃ v, σ[i]? = some (some v) ∧ HasV K g d v

/-- the world goes on -/
structure Ext (g g' : Gh) : Prop where
  frz : Same g.F g'.F
  new : ∃ B, g'.A = g.A ++ B ∧ ∀ a ∈ B, g.H a = none
  keep : ∀ b o, g.H b = some o → b ∉ g.A → g'.H b = some o
  there : ∀ b, g'.H b = none → g.H b = none
  raw : ∀ b o, g.H b = some o → b ∉ g.A → g.F b = none → g'.F b = none
theorem Ext.refl (g : Gh) : Ext g g := ⟨Same.refl _, ⟨[], by simp, fun a h => by simp at h⟩, fun _ _ h _ => h, fun _ h => h, fun _ _ _ _ h => h⟩
/-- a thing that stands and isn't the store's doesn't become the store's -/
theorem Ext.nin {g g' : Gh} (e : Ext g g') {b : Addr} {o : HO} (h : g.H b = some o) (hn : b ∉ g.A) : b ∉ g'.A := by
  obtain ⟨B, e1, n1⟩ := e.new
  rw [e1]
  intro hm
  rcases List.mem_append.mp hm with hm | hm
  · exact hn hm
  · rw [n1 b hm] at h; cases h
theorem Ext.pre {g g' : Gh} (e : Ext g g') : g.A <+: g'.A := by
  obtain ⟨B, h, _⟩ := e.new
  exact ⟨B, h.symm⟩
theorem Ext.trans {g g1 g2 : Gh} (a : Ext g g1) (b : Ext g1 g2) : Ext g g2 := by
  obtain ⟨B1, e1, n1⟩ := a.new
  obtain ⟨B2, e2, n2⟩ := b.new
  refine ⟨a.frz.trans b.frz, ⟨B1 ++ B2, by rw [e2, e1, List.append_assoc], fun c hc => ?_⟩, fun c o h hn => b.keep c o (a.keep c o h hn) (a.nin h hn), fun c h => a.there c (b.there c h), fun c o h hn hf => b.raw c o (a.keep c o h hn) (a.nin h hn) (a.raw c o h hn hf)⟩
  rcases List.mem_append.mp hc with hc | hc
  · exact n1 c hc
  · exact a.there c (n2 c hc)
theorem Has.ext {K : PySem.W.Frag} {g g' : Gh} (e : Ext g g') {d : PyData} {v : V} (h : Has K g.F d v) : Has K g'.F d v := h.mono e.frz
theorem HasL.ext {K : PySem.W.Frag} {g g' : Gh} (e : Ext g g') {d : List PyData} {v : List V} (h : HasL K g.F d v) : HasL K g'.F d v := h.mono e.frz
theorem HasV.mono {K : PySem.W.Frag} {g g' : Gh} (e : Same g.F g'.F) (p : g.A <+: g'.A) {d : Vd} {v : V} (h : HasV K g d v) : HasV K g' d v := by
  cases d with
  | p d => exact Has.mono e h
  | loc k =>
    obtain ⟨a, h1, h2⟩ := h
    obtain ⟨B, hB⟩ := p
    refine ⟨a, ?_, h2⟩
    rw [← hB, List.getElem?_append_left (List.getElem?_eq_some_iff.mp h1).1]
    exact h1
theorem HasV.ext {K : PySem.W.Frag} {g g' : Gh} (e : Ext g g') {d : Vd} {v : V} (h : HasV K g d v) : HasV K g' d v := h.mono e.frz e.pre
theorem Sl.mono {K : PySem.W.Frag} {g g' : Gh} (e : Same g.F g'.F) (p : g.A <+: g'.A) {ρ : Slots} {σ : L2.St} (h : Sl K g ρ σ) : Sl K g' ρ σ := ⟨h.1, fun i d hi => by
  obtain ⟨v, h1, h2⟩ := h.2 i d hi
  exact ⟨v, h1, h2.mono e p⟩⟩
theorem Sl.ext {K : PySem.W.Frag} {g g' : Gh} (e : Ext g g') {ρ : Slots} {σ : L2.St} (h : Sl K g ρ σ) : Sl K g' ρ σ := ⟨h.1, fun i d hi => by
  obtain ⟨v, h1, h2⟩ := h.2 i d hi
  exact ⟨v, h1, h2.ext e⟩⟩

/-! ### answers -/
inductive R (α : Type) where
  | ok (a : α) | exc (n : Str) (st : Store) | bad
@[simp] def R.bind {α β : Type} : R α → (α → R β) → R β
  | .ok a, f => f a
  | .exc n st, _ => .exc n st
  | .bad, _ => .bad
instance : Monad R where
  pure := R.ok
  bind := R.bind
@[simp] theorem R.pure_eq {α : Type} (a : α) : (pure a : R α) = .ok a := rfl
@[simp] theorem R.ok_bind {α β : Type} (a : α) (f : α → R β) : (R.ok a >>= f) = f a := rfl
@[simp] theorem R.exc_bind {α β : Type} (n : Str) (st : Store) (f : α → R β) : (R.exc n st >>= f) = .exc n st := rfl
@[simp] theorem R.bad_bind {α β : Type} (f : α → R β) : (R.bad >>= f) = .bad := rfl

/-- an expression's meaning -/
abbrev FE := Slots → Store → R (Vd × Store)

/-- what is wanted behind an answer -/
def KR {α : Type} (ne : Str → Store → Prop) (ok : α → Prop) : R α → Prop
  | .ok a => ok a
  | .exc n st => ne n st
  | .bad => False
theorem KR.bind {α β : Type} {ne : Str → Store → Prop} {ok : β → Prop} {r : R α} {f : α → R β} (h : KR ne ok (r >>= f)) : KR ne (fun a => KR ne ok (f a)) r := by
  cases r with
  | ok a => exact h
  | exc n s => exact h
  | bad => exact h
theorem KR.mono {α : Type} {ne ne' : Str → Store → Prop} {ok ok' : α → Prop} {r : R α} (h : KR ne ok r) (h1 : ∀ a, ok a → ok' a) (h2 : ∀ n s, ne n s → ne' n s) : KR ne' ok' r := by
  cases r with
  | ok a => exact h1 _ h
  | exc n s => exact h2 _ _ h
  | bad => exact h

/-- the state is told by ρ, st -/
structure Rel (K : PySem.W.Frag) (ρ : Slots) (st : Store) (σ : L2.St) (g : Gh) : Prop where
  wd : Wd K st g
  sl : Sl K g ρ σ

/-- how exceptions are wished: by the class's name -/
abbrev Wish := Str → L2.St → Hp → Prop
abbrev noW : Wish := fun _ _ _ => False

/-- how exceptions are wished from here on -/
def WN (K : PySem.W.Frag) (W : Wish) (ρ : Slots) (σ : L2.St) (g : Gh) : Str → Store → Prop := fun n st => ∀ g', Ext g g' → Rel K ρ st σ g' → W n σ g'.H
theorem WN.ext {K : PySem.W.Frag} {W : Wish} {ρ : Slots} {σ : L2.St} {g g' : Gh} (e : Ext g g') {n : Str} {st : Store} (h : WN K W ρ σ g n st) : WN K W ρ σ g' n st := fun g2 e2 => h g2 (e.trans e2)
/-- behind an expression -/
def KE (K : PySem.W.Frag) (W : Wish) (ρ : Slots) (σ : L2.St) (g : Gh) (Q : VK) : R (Vd × Store) → Prop :=
  KR (WN K W ρ σ g) fun a => ∀ v g', Ext g g' → Rel K ρ a.2 σ g' → HasV K g' a.1 v → Q v g'.H

/-- the expression e means f -/
def VE (X : Cx) (W : Wish) (e : Expr) (f : FE) : Prop :=
  ∃ t, PE X e t ∧ ∀ ρ st σ g Q, Rel X.K ρ st σ g → KE X.K W ρ σ g Q (f ρ st) → t σ g.H Q
end VL

namespace VL
open PySem PySem.Spec PyProof.Rows L2

theorem Rel.ext {K : PySem.W.Frag} {ρ : Slots} {st st' : Store} {σ : L2.St} {g g' : Gh} (r : Rel K ρ st σ g) (e : Ext g g') (w : Wd K st' g') : Rel K ρ st' σ g' := ⟨w, r.sl.ext e⟩

/-- a wish about answers that holds on -/
def Goes {β : Type} (ok : Gh → β → Prop) : Prop := ∀ g g' b, Ext g g' → ok g b → ok g' b

def okE (K : PySem.W.Frag) (ρ : Slots) (σ : L2.St) (Q : VK) (g : Gh) (a : Vd × Store) : Prop := ∀ v g', Ext g g' → Rel K ρ a.2 σ g' → HasV K g' a.1 v → Q v g'.H
theorem okE.goes {K : PySem.W.Frag} {ρ : Slots} {σ : L2.St} {Q : VK} : Goes (okE K ρ σ Q) := fun g g' b e h v g2 e2 => h v g2 (e.trans e2)

section
variable {X : Cx} {W : Wish}
/-- the use of a sub-expression -/
theorem VE.run {e : Expr} {f : FE} (h : VE X W e f) : ∃ t, PE X e t ∧ ∀ {β : Type} (ρ : Slots) (st : Store) (σ : L2.St) (g : Gh) (P : VK) (ok : Gh → β → Prop) (k : Vd × Store → R β), Goes ok → Rel X.K ρ st σ g →
    KR (WN X.K W ρ σ g) (ok g) (f ρ st >>= k) →
    (∀ d st1 v g1, Ext g g1 → Rel X.K ρ st1 σ g1 → HasV X.K g1 d v → KR (WN X.K W ρ σ g1) (ok g1) (k (d, st1)) → P v g1.H) → t σ g.H P := by
  obtain ⟨t, ht, hr⟩ := h
  refine ⟨t, ht, fun {β} ρ st σ g P ok k go rel kr hP => hr ρ st σ g P rel ?_⟩
  refine KR.mono kr.bind (fun a ha v g1 e r hv => ?_) fun n s hn => hn
  exact hP a.1 a.2 v g1 e r hv (KR.mono ha (fun b hb => go g g1 b e hb) fun n s hn => hn.ext e)

/-! ### tests, lists of arguments -/
abbrev FT := Slots → Store → R (Bool × Store)
abbrev FA := Slots → Store → R (List Vd × Store)
def okT (K : PySem.W.Frag) (ρ : Slots) (σ : L2.St) (Q : Bool → Hp → Prop) (g : Gh) (a : Bool × Store) : Prop := ∀ g', Ext g g' → Rel K ρ a.2 σ g' → Q a.1 g'.H
theorem okT.goes {K : PySem.W.Frag} {ρ : Slots} {σ : L2.St} {Q : Bool → Hp → Prop} : Goes (okT K ρ σ Q) := fun g g' b e h g2 e2 => h g2 (e.trans e2)
def okA (K : PySem.W.Frag) (ρ : Slots) (σ : L2.St) (Q : List V → Hp → Prop) (g : Gh) (a : List Vd × Store) : Prop := ∀ vs g', Ext g g' → Rel K ρ a.2 σ g' → HasVL K g' a.1 vs → Q vs g'.H
theorem okA.goes {K : PySem.W.Frag} {ρ : Slots} {σ : L2.St} {Q : List V → Hp → Prop} : Goes (okA K ρ σ Q) := fun g g' b e h vs g2 e2 => h vs g2 (e.trans e2)
def VT (X : Cx) (W : Wish) (e : Expr) (f : FT) : Prop :=
  ∃ t, PT X e t ∧ ∀ ρ st σ g Q, Rel X.K ρ st σ g → KR (WN X.K W ρ σ g) (okT X.K ρ σ Q g) (f ρ st) → t σ g.H Q
def VWt (X : Cx) (W : Wish) (e : Expr) (f : FT) : Prop :=
  ∃ t, PW X e t ∧ ∀ ρ st σ g Q, Rel X.K ρ st σ g → KR (WN X.K W ρ σ g) (okT X.K ρ σ Q g) (f ρ st) → t σ g.H Q
def VA (X : Cx) (W : Wish) (es : List Expr) (f : FA) : Prop :=
  ∃ t, PA X es t ∧ ∀ ρ st σ g Q, Rel X.K ρ st σ g → KR (WN X.K W ρ σ g) (okA X.K ρ σ Q g) (f ρ st) → t σ g.H Q
theorem VWt.vt {e : Expr} {f : FT} (h : VWt X W e f) : VT X W e f := let ⟨t, a, b⟩ := h; ⟨t, a.pt, b⟩
theorem VT.run {e : Expr} {f : FT} (h : VT X W e f) : ∃ t, PT X e t ∧ ∀ {β : Type} (ρ : Slots) (st : Store) (σ : L2.St) (g : Gh) (P : Bool → Hp → Prop) (ok : Gh → β → Prop) (k : Bool × Store → R β), Goes ok → Rel X.K ρ st σ g →
    KR (WN X.K W ρ σ g) (ok g) (f ρ st >>= k) →
    (∀ d st1 g1, Ext g g1 → Rel X.K ρ st1 σ g1 → KR (WN X.K W ρ σ g1) (ok g1) (k (d, st1)) → P d g1.H) → t σ g.H P := by
  obtain ⟨t, ht, hr⟩ := h
  refine ⟨t, ht, fun {β} ρ st σ g P ok k go rel kr hP => hr ρ st σ g P rel ?_⟩
  refine KR.mono kr.bind (fun a ha g1 e r => ?_) fun n s hn => hn
  exact hP a.1 a.2 g1 e r (KR.mono ha (fun b hb => go g g1 b e hb) fun n s hn => hn.ext e)
theorem VWt.run {e : Expr} {f : FT} (h : VWt X W e f) : ∃ t, PW X e t ∧ ∀ {β : Type} (ρ : Slots) (st : Store) (σ : L2.St) (g : Gh) (P : Bool → Hp → Prop) (ok : Gh → β → Prop) (k : Bool × Store → R β), Goes ok → Rel X.K ρ st σ g →
    KR (WN X.K W ρ σ g) (ok g) (f ρ st >>= k) →
    (∀ d st1 g1, Ext g g1 → Rel X.K ρ st1 σ g1 → KR (WN X.K W ρ σ g1) (ok g1) (k (d, st1)) → P d g1.H) → t σ g.H P := by
  obtain ⟨t, ht, hr⟩ := h
  refine ⟨t, ht, fun {β} ρ st σ g P ok k go rel kr hP => hr ρ st σ g P rel ?_⟩
  refine KR.mono kr.bind (fun a ha g1 e r => ?_) fun n s hn => hn
  exact hP a.1 a.2 g1 e r (KR.mono ha (fun b hb => go g g1 b e hb) fun n s hn => hn.ext e)
theorem VA.run {es : List Expr} {f : FA} (h : VA X W es f) : ∃ t, PA X es t ∧ ∀ {β : Type} (ρ : Slots) (st : Store) (σ : L2.St) (g : Gh) (P : List V → Hp → Prop) (ok : Gh → β → Prop) (k : List Vd × Store → R β), Goes ok → Rel X.K ρ st σ g →
    KR (WN X.K W ρ σ g) (ok g) (f ρ st >>= k) →
    (∀ d st1 v g1, Ext g g1 → Rel X.K ρ st1 σ g1 → HasVL X.K g1 d v → KR (WN X.K W ρ σ g1) (ok g1) (k (d, st1)) → P v g1.H) → t σ g.H P := by
  obtain ⟨t, ht, hr⟩ := h
  refine ⟨t, ht, fun {β} ρ st σ g P ok k go rel kr hP => hr ρ st σ g P rel ?_⟩
  refine KR.mono kr.bind (fun a ha v g1 e r hv => ?_) fun n s hn => hn
  exact hP a.1 a.2 v g1 e r hv (KR.mono ha (fun b hb => go g g1 b e hb) fun n s hn => hn.ext e)

/-! ### names, constants -/
def vVar (i : Nat) : FE := fun ρ st => match ρ[i]? with
  | some (some d) => .ok (d, st)
  | _ => .bad
def vC (d : PyData) : FE := fun _ st => .ok (.p d, st)
theorem ve_of {e : Expr} {t : TE} {i : Nat} (h : PE X e t) (ht : ∀ σ H Q v, σ[i]? = some (some v) → Q v H → t σ H Q) : VE X W e (vVar i) := by
  refine ⟨t, h, fun ρ st σ g Q r k => ?_⟩
  unfold vVar at k
  cases e1 : ρ[i]? with
  | none => rw [e1] at k; exact k.elim
  | some o =>
    cases o with
    | none => rw [e1] at k; exact k.elim
    | some d =>
      rw [e1] at k
      obtain ⟨v, h1, h2⟩ := r.sl.2 i d e1
      exact ht σ g.H Q v h1 (k v g (Ext.refl g) r h2)
theorem ve_var (i : Nat) {x : Str} {pos : Pos} (hN : X.N[i]? = some x := by rfl) (hv : Vis X.env.scope x := by first | exact Or.inl rfl | exact Or.inr (Or.inl rfl) | exact Or.inr (Or.inr rfl)) (hd : (x == ("__debug__" : Str)) = false := by decide)
    (hcd : (x == ("__classdict__" : Str)) = false := by decide) : VE X W (.Name x pos) (vVar i) := ve_of (pe_var hN hv hd hcd) fun _ _ _ v h q => ⟨v, h, q⟩
theorem ve_const {e : Expr} {d : PyData} {v : V} (h : PE X e (tC v)) (hv : ∀ F, Has X.K F d v) : VE X W e (vC d) :=
  ⟨_, h, fun ρ st σ g Q r k => k v g (Ext.refl g) r (hv g.F)⟩
theorem ve_int {i j pos} : VE X W (.Constant (.int i) j pos) (vC (.int i)) := ve_const pe_int fun _ => .int i
theorem ve_bl {b j pos} : VE X W (.Constant (.bool b) j pos) (vC (.bool b)) := ve_const pe_bl fun _ => .bl b
theorem ve_non {j pos} : VE X W (.Constant .none j pos) (vC .none) := ve_const pe_non fun _ => .non
theorem ve_str {x j pos} : VE X W (.Constant (.str x) j pos) (vC (.str x)) := ve_const pe_str fun _ => .str x

/-! ### the world grows -/
/-- a new thing that will not change -/
abbrev Gh.fz (g : Gh) (p : Addr) (o : HO) : Gh := ⟨upd g.F p o, g.A, upd g.H p o⟩
theorem Wd.fnone {st : Store} {g : Gh} {K : PySem.W.Frag} (w : Wd K st g) {p : Addr} (h : g.H p = none) : g.F p = none := w.sub.free h
theorem same_upd {F : Hp} {p : Addr} {o : HO} (h : F p = none) : Same F (upd F p o) := fun b x e => by
  rw [upd_ne (ne_of_none e h)]; exact e
theorem ext_fz {st : Store} {g : Gh} {K : PySem.W.Frag} (w : Wd K st g) {p : Addr} {o : HO} (h : g.H p = none) : Ext g (g.fz p o) :=
  ⟨same_upd (w.fnone h), ⟨[], by simp, fun a z => by simp at z⟩, fun b x e _ => by
    show upd g.H p o b = some x
    rw [upd_ne (ne_of_none e h)]; exact e, fun b e => by
    have e : upd g.H p o b = none := e
    by_cases hb : b = p
    · rw [hb]; exact h
    · rw [upd_ne hb] at e; exact e, fun b x e _ hf => by
    show upd g.F p o b = none
    rw [upd_ne (ne_of_none e h)]; exact hf⟩
theorem HasL.mono' {K : PySem.W.Frag} {F F' : Hp} (e : Same F F') {ds : List PyData} {xs : List V} (h : HasL K F ds xs) : HasL K F' ds xs := h.mono e
theorem DctAt.mono {K : PySem.W.Frag} {F F' : Hp} (e : Same F F') {ds : List (PyData × PyData)} {o : Option HO} {t : Bool} (h : DctAt K F ds o t) : DctAt K F' ds o t := by
  cases t with
  | false =>
    obtain ⟨xs, h1, h2, h3⟩ := h
    exact ⟨xs, h1, h2, h3.mono e⟩
  | true =>
    obtain ⟨xs, h1, h2, h3⟩ := h
    exact ⟨xs, h1, h2, h3.mono e⟩
/-- an owned object in a world that goes on -/
theorem ObAt.ext {K : PySem.W.Frag} {g g' : Gh} {a : Addr} {ob : Ob} (e : Same g.F g'.F) (hf : g.F a = none → g'.F a = none) (hH : g'.H a = g.H a) (h : ObAt K g a ob) : ObAt K g' a ob := by
  cases ob with
  | lst ds =>
    obtain ⟨h0, xs, h1, h2⟩ := h
    exact ⟨hf h0, xs, hH.trans h1, h2.mono e⟩
  | dct t ds =>
    obtain ⟨h0, h1⟩ := h
    exact ⟨hf h0, by rw [hH]; exact h1.mono e⟩
  | fz d => exact Has.mono e h
theorem wd_fz {st : Store} {g : Gh} {K : PySem.W.Frag} (w : Wd K st g) {p : Addr} {o : HO} (h : g.H p = none) : Wd K st (g.fz p o) := by
  have e := ext_fz (o := o) w h
  refine ⟨fun b x q => ?_, w.nd, w.len, fun a ha => ?_, fun k a ob h1 h2 => ?_⟩
  · have q : upd g.F p o b = some x := q
    show upd g.H p o b = some x
    by_cases hb : b = p
    · rw [hb, upd_same] at q ⊢; exact q
    · rw [upd_ne hb] at q ⊢; exact w.sub b x q
  · obtain ⟨x, hx⟩ := w.there a ha
    refine ⟨x, ?_⟩
    show upd g.H p o a = some x
    rw [upd_ne (ne_of_none hx h)]; exact hx
  · obtain ⟨x, hx⟩ := w.there a (List.mem_of_getElem? h1)
    have hap : a ≠ p := ne_of_none hx h
    refine (w.own k a ob h1 h2).ext e.frz (fun z => ?_) ?_
    · show upd g.F p o a = none
      rw [upd_ne hap]; exact z
    · show upd g.H p o a = g.H a
      rw [upd_ne hap]
theorem Rel.fz {ρ : Slots} {st : Store} {σ : L2.St} {g : Gh} (r : Rel X.K ρ st σ g) {p : Addr} {o : HO} (h : g.H p = none) : Rel X.K ρ st σ (g.fz p o) := ⟨wd_fz r.wd h, r.sl.ext (ext_fz r.wd h)⟩
/-- a new list, frozen at once -/
theorem has_newL {st : Store} {g : Gh} {K : PySem.W.Frag} (w : Wd K st g) {p : Addr} {ds : List PyData} {xs : List V} (h : g.H p = none) (hv : HasL K g.F ds xs) : Has K (g.fz p (.lst xs)).F (.list ds) (.ref p) :=
  .lst' (.inl (.inl upd_same)) (hv.mono (same_upd (w.fnone h)))
theorem has_newT {st : Store} {g : Gh} {K : PySem.W.Frag} (w : Wd K st g) {p : Addr} {ds : List PyData} {xs : List V} (h : g.H p = none) (hv : HasL K g.F ds xs) : Has K (g.fz p (.tup xs)).F (.tuple ds) (.ref p) :=
  .tup' upd_same (hv.mono (same_upd (w.fnone h)))

/-! ### what a value in flight holds now -/
/-- d is read off v in the heap as it stands: the object itself may be one that changes -/
def Pk (K : PySem.W.Frag) (g : Gh) : PyData → V → Prop
  | .list ds, v => ∃ a xs, v = .ref a ∧ SqL K g.H a xs ∧ HasL K g.F ds xs
  | .dict ds, v => ∃ a, v = .ref a ∧ ((∃ xs, Rd g.H a (.dK xs) ∧ ds.map (·.1) = xs.map (fun p => keyP p.1) ∧ HasL K g.F (ds.map (·.2)) (xs.map (·.2))) ∨
      ∃ xs, Rd g.H a (.dT xs) ∧ ds.map (·.1) = xs.map (fun p => keyT p.1) ∧ HasL K g.F (ds.map (·.2)) (xs.map (·.2)))
  | d, v => Has K g.F d v
def peek (st : Store) : Vd → R PyData
  | .p d => .ok d
  | .loc k => match st[k]? with
    | some (.lst ds) => .ok (.list ds)
    | some (.dct _ ds) => .ok (.dict ds)
    | some (.fz d) => .ok d
    | none => .bad
theorem hasL_map2 {K : PySem.W.Frag} {F : Hp} {α : Type} {ds : List (PyData × PyData)} {xs : List (α × V)} (hl : xs.length = ds.length) (h : ∀ (i : Nat) d v, ds[i]? = some d → xs[i]? = some v → Has K F d.2 v.2) : HasL K F (ds.map (·.2)) (xs.map (·.2)) := by
  refine ⟨by simp [hl], fun i d v hd hv => ?_⟩
  rw [List.getElem?_map] at hd hv
  cases e1 : ds[i]? with
  | none => rw [e1] at hd; cases hd
  | some p =>
    cases e2 : xs[i]? with
    | none => rw [e2] at hv; cases hv
    | some q =>
      rw [e1] at hd; rw [e2] at hv
      cases hd; cases hv
      exact h i p q e1 e2
theorem Has.pk {K : PySem.W.Frag} {st : Store} {g : Gh} (w : Wd K st g) {d : PyData} {v : V} (h : Has K g.F d v) : Pk K g d v := by
  cases h with
  | non => exact .non
  | bl b => exact .bl b
  | int i => exact .int i
  | str x => exact .str x
  | tup s l q => exact .tup s l q
  | lst s l q => exact ⟨_, _, rfl, w.sub.seq s, l, q⟩
  | dK s l q =>
    refine ⟨_, rfl, .inl ⟨_, rd_mono w.sub s, l, hasL_map2 ?_ q⟩⟩
    have := congrArg List.length l
    simpa using this.symm
  | dT s l q =>
    refine ⟨_, rfl, .inr ⟨_, rd_mono w.sub s, l, hasL_map2 ?_ q⟩⟩
    have := congrArg List.length l
    simpa using this.symm
theorem pk_of {K : PySem.W.Frag} {st : Store} {g : Gh} (w : Wd K st g) {x : Vd} {v : V} (h : HasV K g x v) {d : PyData} (e : peek st x = .ok d) : Pk K g d v := by
  cases x with
  | p d' => cases e; exact Has.pk w h
  | loc k =>
    obtain ⟨a, h1, rfl⟩ := h
    simp only [peek] at e
    cases hk : st[k]? with
    | none => rw [hk] at e; cases e
    | some ob =>
      have o := w.own k a ob h1 hk
      rw [hk] at e
      cases ob with
      | lst ds =>
        cases e
        obtain ⟨_, xs, q1, q2⟩ := o
        exact ⟨a, xs, rfl, .inl (.inl q1), q2⟩
      | dct t ds =>
        cases e
        obtain ⟨_, q⟩ := o
        cases t with
        | false =>
          obtain ⟨xs, q1, q2, q3⟩ := q
          exact ⟨a, rfl, .inl ⟨xs, .inl q1, q2, q3⟩⟩
        | true =>
          obtain ⟨xs, q1, q2, q3⟩ := q
          exact ⟨a, rfl, .inr ⟨xs, .inl q1, q2, q3⟩⟩
      | fz d' => cases e; exact Has.pk w o

/-! ### what a value in flight holds, from now on for good -/
def frz (st : Store) : Vd → R (PyData × Store)
  | .p d => .ok (d, st)
  | .loc k => match st[k]? with
    | some (.lst ds) => .ok (.list ds, st.set k (.fz (.list ds)))
    | some (.dct _ ds) => .ok (.dict ds, st.set k (.fz (.dict ds)))
    | some (.fz d) => .ok (d, st)
    | none => .bad
/-- an owned object becomes a frozen one -/
abbrev Gh.freeze (g : Gh) (a : Addr) (o : HO) : Gh := ⟨upd g.F a o, g.A, g.H⟩
theorem has_dct {K : PySem.W.Frag} {F : Hp} {ds : List (PyData × PyData)} {o : HO} {a : Addr} {t : Bool} (h : DctAt K F ds (some o) t) (ha : Rd F a o) : Has K F (.dict ds) (.ref a) := by
  have key : ∀ {α : Type} {xs : List (α × V)}, ds.length = xs.length → HasL K F (ds.map (·.2)) (xs.map (·.2)) → ∀ (i : Nat) d v, ds[i]? = some d → xs[i]? = some v → Has K F d.2 v.2 := fun {α xs} _ hl i d v hd hv =>
    hl.2 i d.2 v.2 (by rw [List.getElem?_map, hd]; rfl) (by rw [List.getElem?_map, hv]; rfl)
  cases t with
  | false =>
    obtain ⟨xs, h1, h2, h3⟩ := h
    cases h1
    exact .dK ha h2 (key (by simpa using congrArg List.length h2) h3)
  | true =>
    obtain ⟨xs, h1, h2, h3⟩ := h
    cases h1
    exact .dT ha h2 (key (by simpa using congrArg List.length h2) h3)
theorem frz_ok {K : PySem.W.Frag} {ρ : Slots} {st st' : Store} {σ : L2.St} {g : Gh} (r : Rel K ρ st σ g) {x : Vd} {v : V} (h : HasV K g x v) {d : PyData} (e : frz st x = .ok (d, st')) : ∃ g', g'.H = g.H ∧ Ext g g' ∧ Rel K ρ st' σ g' ∧ Has K g'.F d v := by
  cases x with
  | p d' => cases e; exact ⟨g, rfl, Ext.refl g, r, h⟩
  | loc k =>
    obtain ⟨a, h1, rfl⟩ := h
    simp only [frz] at e
    have main : ∀ (o : HO) (d' : PyData), g.F a = none → g.H a = some o → Has K (upd g.F a o) d' (.ref a) → k < st.length → ∃ g', g'.H = g.H ∧ Ext g g' ∧ Rel K ρ (st.set k (.fz d')) σ g' ∧ Has K g'.F d' (.ref a) := by
      intro o d' hF hH hd hk
      have sm : Same g.F (upd g.F a o) := same_upd hF
      have ex : Ext g (g.freeze a o) := ⟨sm, ⟨[], by simp, fun a z => by simp at z⟩, fun _ _ q _ => q, fun _ q => q, fun b x _ hb hf => by
        show upd g.F a o b = none
        rw [upd_ne (fun (z : b = a) => hb (by rw [z]; exact List.mem_of_getElem? h1))]; exact hf⟩
      refine ⟨g.freeze a o, rfl, ex, ⟨⟨fun b x q => ?_, r.wd.nd, by rw [List.length_set]; exact r.wd.len, r.wd.there, fun j b ob hj hb => ?_⟩, r.sl.ext ex⟩, hd⟩
      · have q : upd g.F a o b = some x := q
        by_cases hb : b = a
        · rw [hb, upd_same] at q; cases q; rw [hb]; exact hH
        · rw [upd_ne hb] at q; exact r.wd.sub b x q
      · by_cases hjk : j = k
        · subst hjk
          rw [List.getElem?_set_self hk] at hb
          cases hb
          have : b = a := by rw [h1] at hj; cases hj; rfl
          subst this
          exact hd
        · rw [List.getElem?_set_ne (Ne.symm hjk)] at hb
          have hba : b ≠ a := fun z => hjk (nd_ix r.wd.nd hj (z ▸ h1))
          refine (r.wd.own j b ob hj hb).ext sm (fun z => ?_) rfl
          show upd g.F a o b = none
          rw [upd_ne hba]; exact z
    cases hk : st[k]? with
    | none => rw [hk] at e; cases e
    | some ob =>
      have kl : k < st.length := (List.getElem?_eq_some_iff.mp hk).1
      have o := r.wd.own k a ob h1 hk
      rw [hk] at e
      cases ob with
      | lst ds =>
        cases e
        obtain ⟨q0, xs, q1, q2⟩ := o
        exact main (.lst xs) (.list ds) q0 q1 (.lst' (.inl (.inl upd_same)) (q2.mono (same_upd q0))) kl
      | dct t ds =>
        cases e
        obtain ⟨q0, q1⟩ := o
        obtain ⟨u, hu⟩ : ∃ u, g.H a = some u := by
          cases t with
          | false => obtain ⟨xs, q, _⟩ := q1; exact ⟨_, q⟩
          | true => obtain ⟨xs, q, _⟩ := q1; exact ⟨_, q⟩
        rw [hu] at q1
        exact main u (.dict ds) q0 hu (has_dct (q1.mono (same_upd q0)) (.inl upd_same)) kl
      | fz d' => cases e; exact ⟨g, rfl, Ext.refl g, r, o⟩
end
end VL

namespace VL
open PySem PySem.Spec PyProof.Rows L2

/-! ### data as the library reads them -/
theorem dpAll_of {K : PySem.W.Frag} {F : Hp} : ∀ {ds : List PyData} {xs : List V}, xs.length = ds.length → (∀ (i : Nat) d v, ds[i]? = some d → xs[i]? = some v → Dp K F v d) → DpAll K F xs ds
  | [], [], _, _ => .nil
  | d :: ds, v :: xs, hl, h => .cons (h 0 d v rfl rfl) (dpAll_of (by simpa using hl) fun i d' v' h1 h2 => h (i + 1) d' v' (by simpa using h1) (by simpa using h2))
  | [], _ :: _, hl, _ => absurd hl (by simp)
  | _ :: _, [], hl, _ => absurd hl (by simp)
theorem canLay_mem : ∀ {ds : List PyData}, PyData.canLayAll0 ds = true → ∀ (i : Nat) d, ds[i]? = some d → d.canLay0 = true
  | [], _, i, d, h => by simp at h
  | e :: ds, hc, 0, d, h => by
    simp only [PyData.canLayAll0, Bool.and_eq_true] at hc
    simp at h; subst h; exact hc.1
  | e :: ds, hc, i + 1, d, h => by
    simp only [PyData.canLayAll0, Bool.and_eq_true] at hc
    exact canLay_mem hc.2 i d (by simpa using h)
theorem Has.dp {K : PySem.W.Frag} {F : Hp} {d : PyData} {v : V} (h : Has K F d v) (hc : d.canLay0 = true) : Dp K F v d := by
  induction h with
  | non => exact .non
  | bl b => exact .bl b
  | int i => exact .int i
  | str x => exact .str x
  | tup s l _ ih =>
    simp only [PyData.canLay0] at hc
    exact .tup (.inl (.inl s)) (dpAll_of l fun i d v h1 h2 => ih i d v h1 h2 (canLay_mem hc i d h1))
  | lst s l _ ih =>
    simp only [PyData.canLay0] at hc
    exact .lst s (dpAll_of l fun i d v h1 h2 => ih i d v h1 h2 (canLay_mem hc i d h1))
  | dK s l _ ih => simp [PyData.canLay0] at hc
  | dT s l _ ih => simp [PyData.canLay0] at hc
theorem HasL.dpAll {K : PySem.W.Frag} {F : Hp} {ds : List PyData} {xs : List V} (h : HasL K F ds xs) (hc : PyData.canLayAll0 ds = true) : DpAll K F xs ds :=
  dpAll_of h.1 fun i d v h1 h2 => (h.2 i d v h1 h2).dp (canLay_mem hc i d h1)
theorem dp_same {K : PySem.W.Frag} {F F' : Hp} (e : Same F F') {d : PyData} {v : V} (h : Has K F d v) (hc : d.canLay0 = true) : Dp K F' v d := (h.mono e).dp hc
theorem Pk.dp {K : PySem.W.Frag} {st : Store} {g : Gh} (w : Wd K st g) {d : PyData} {v : V} (h : Pk K g d v) (hc : d.canLay0 = true) : Dp K g.H v d := by
  cases d with
  | list ds =>
    obtain ⟨a, xs, rfl, s, l⟩ := h
    simp only [PyData.canLay0] at hc
    exact .lst s ((l.mono w.sub).dpAll hc)
  | dict ds => simp [PyData.canLay0] at hc
  | none => exact dp_same w.sub h hc
  | bool b => exact dp_same w.sub h hc
  | int b => exact dp_same w.sub h hc
  | str b => exact dp_same w.sub h hc
  | tuple b => exact dp_same w.sub h hc

section
variable {X : Cx} {W : Wish}
abbrev okP (K : PySem.W.Frag) (ρ : Slots) (σ : L2.St) (Q : VK) (st : Store) (g : Gh) : Gh → PyData → Prop := fun _ _ => True
/-- an operation upon what two values hold -/
def OpV (X : Cx) (W : Wish) (f : Value → Value → Sem Value) (o : PyData → PyData → R PyData) : Prop :=
  ∃ r, OpR X f r ∧ ∀ (ρ : Slots) (st : Store) (σ : L2.St) (g : Gh) (x y : PyData) (v u : V) (Q : VK), Rel X.K ρ st σ g → Pk X.K g x v → Pk X.K g y u →
    KR (WN X.K W ρ σ g) (okE X.K ρ σ Q g) (o x y >>= fun d => .ok (.p d, st)) → r v u g.H Q
def vBin (o : PyData → PyData → R PyData) (f h : FE) : FE := fun ρ st => f ρ st >>= fun a => h ρ a.2 >>= fun b => peek b.2 a.1 >>= fun x => peek b.2 b.1 >>= fun y => o x y >>= fun d => .ok (.p d, b.2)
theorem bin_run {r : R2} {o : PyData → PyData → R PyData} {a b : Expr} {f h : FE} (ho : ∀ (ρ : Slots) (st : Store) (σ : L2.St) (g : Gh) (x y : PyData) (v u : V) (Q : VK), Rel X.K ρ st σ g → Pk X.K g x v → Pk X.K g y u →
    KR (WN X.K W ρ σ g) (okE X.K ρ σ Q g) (o x y >>= fun d => .ok (.p d, st)) → r v u g.H Q) (ha : VE X W a f) (hb : VE X W b h) :
    ∃ ta tb, PE X a ta ∧ PE X b tb ∧ ∀ ρ st σ g Q, Rel X.K ρ st σ g → KE X.K W ρ σ g Q (vBin o f h ρ st) → tOp r ta tb σ g.H Q := by
  obtain ⟨ta, pa, ra⟩ := ha.run
  obtain ⟨tb, pb, rb⟩ := hb.run
  refine ⟨ta, tb, pa, pb, fun ρ st σ g Q rel k => ?_⟩
  refine ra ρ st σ g _ (okE X.K ρ σ Q) _ okE.goes rel k fun d1 st1 v1 g1 e1 r1 h1 k1 => ?_
  refine rb ρ st1 σ g1 _ (okE X.K ρ σ Q) _ okE.goes r1 k1 fun d2 st2 v2 g2 e2 r2 h2 k2 => ?_
  cases p1 : peek st2 d1 with
  | bad => rw [p1] at k2; exact k2.elim
  | exc n s => cases d1 with
    | p d => simp [peek] at p1
    | loc k => simp only [peek] at p1; split at p1 <;> cases p1
  | ok x =>
    cases p2 : peek st2 d2 with
    | bad => simp only [p1, p2] at k2; exact k2.elim
    | exc n s => cases d2 with
      | p d => simp [peek] at p2
      | loc k => simp only [peek] at p2; split at p2 <;> cases p2
    | ok y =>
      simp only [p1, p2] at k2
      exact ho ρ st2 σ g2 x y v1 v2 Q r2 (pk_of r2.wd (h1.ext e2) p1) (pk_of r2.wd h2 p2) k2
theorem ve_op {op : Operator} {o : PyData → PyData → R PyData} {a b : Expr} {f h : FE} {pos : Pos} (ho : OpV X W (binaryOp op) o) (ha : VE X W a f) (hb : VE X W b h) : VE X W (.BinOp a op b pos) (vBin o f h) := by
  obtain ⟨r, h1, h2⟩ := ho
  obtain ⟨ta, tb, pa, pb, k⟩ := bin_run h2 ha hb
  exact ⟨_, pe_op h1 pa pb, k⟩
theorem ve_cmp {op : CmpOp} {o : PyData → PyData → R PyData} {a b : Expr} {f h : FE} {pos : Pos} (ho : OpV X W (compareOp op) o) (ha : VE X W a f) (hb : VE X W b h) (hm : behindInMarks op b = false) : VE X W (.Compare a [op] [b] pos) (vBin o f h) := by
  obtain ⟨r, h1, h2⟩ := ho
  obtain ⟨ta, tb, pa, pb, k⟩ := bin_run h2 ha hb
  exact ⟨_, pe_cmpR h1 pa pb hm, k⟩
/-- a bool out of an answer -/
def asB (f : FE) : FT := fun ρ st => f ρ st >>= fun a => match a.1 with
  | .p (.bool b) => .ok (b, a.2)
  | _ => .bad
theorem vt_cmp {op : CmpOp} {o : PyData → PyData → R PyData} {a b : Expr} {f h : FE} {pos : Pos} (ho : OpV X W (compareOp op) o) (ha : VE X W a f) (hb : VE X W b h) (hm : behindInMarks op b = false) : VT X W (.Compare a [op] [b] pos) (asB (vBin o f h)) := by
  obtain ⟨r, h1, h2⟩ := ho
  obtain ⟨ta, tb, pa, pb, k⟩ := bin_run h2 ha hb
  refine ⟨_, pt_cmpR h1 pa pb hm, fun ρ st σ g Q rel kr => k ρ st σ g _ rel ?_⟩
  refine KR.mono (KR.bind kr) (fun z hz v g' e r' hv => ?_) fun n s hn => hn
  obtain ⟨d, st'⟩ := z
  cases d with
  | loc _ => exact hz.elim
  | p d =>
    cases d with
    | bool b => exact ⟨b, hv.bl_inv, hz g' e r'⟩
    | _ => exact hz.elim

/-! ### the operations -/
abbrev LIM : Nat := 16777216
theorem lim_eq : (sizeLine : Nat) = LIM := sizeLine_eq
/-- one rule of ints -/
theorem okP_fin {ρ : Slots} {st : Store} {σ : L2.St} {g : Gh} {Q : VK} {d : PyData} {v : V} (rel : Rel X.K ρ st σ g) (hv : Has X.K g.F d v) (k : KR (WN X.K W ρ σ g) (okE X.K ρ σ Q g) (.ok (.p d, st) : R (Vd × Store))) : Q v g.H := k v g (Ext.refl g) rel hv
theorem okP_newL {ρ : Slots} {st : Store} {σ : L2.St} {g : Gh} {Q : VK} {ds : List PyData} {xs : List V} (rel : Rel X.K ρ st σ g) (hv : HasL X.K g.F ds xs) (k : KR (WN X.K W ρ σ g) (okE X.K ρ σ Q g) (.ok (.p (.list ds), st) : R (Vd × Store))) :
    ∀ p, g.H p = none → Q (.ref p) (upd g.H p (.lst xs)) := fun p hp => k (.ref p) (g.fz p (.lst xs)) (ext_fz rel.wd hp) (rel.fz hp) (has_newL rel.wd hp hv)
theorem okP_newT {ρ : Slots} {st : Store} {σ : L2.St} {g : Gh} {Q : VK} {ds : List PyData} {xs : List V} (rel : Rel X.K ρ st σ g) (hv : HasL X.K g.F ds xs) (k : KR (WN X.K W ρ σ g) (okE X.K ρ σ Q g) (.ok (.p (.tuple ds), st) : R (Vd × Store))) :
    ∀ p, g.H p = none → Q (.ref p) (upd g.H p (.tup xs)) := fun p hp => k (.ref p) (g.fz p (.tup xs)) (ext_fz rel.wd hp) (rel.fz hp) (has_newT rel.wd hp hv)

/-- list + list, any that are read -/
def rCatL (K : PySem.W.Frag) : R2 := fun x y H Q => ∃ l b xs zs, x = .ref l ∧ y = .ref b ∧ SqL K H l xs ∧ SqL K H b zs ∧ xs.length + zs.length ≤ sizeLine ∧ ∀ p, H p = none → Q (.ref p) (upd H p (.lst (xs ++ zs)))
theorem op_catL : OpR X (binaryOp .Add) (rCatL X.K) := by
  intro pins s σ H x y v u Q I rx ry h
  obtain ⟨l, b, xs, zs, rfl, rfl, hH, hB, hz, q⟩ := h
  cases rx
  cases ry
  obtain ⟨its, r, ⟨⟨cls, dd, data, sl⟩, n, ho, hc, hdn, hd⟩, z⟩ := I.list hH
  obtain ⟨its2, r2, ⟨⟨cls2, dd2, data2, sl2⟩, n2, ho2, hc2, hdn2, hd2⟩, z2⟩ := I.list hB
  simp only at hc hd hdn hc2 hd2 hdn2
  subst hc hd hdn hc2 hd2 hdn2
  have hl := r.length
  have hl2 := r2.length
  have ea : its.toArray ++ its2.toArray = (its ++ its2).toArray := by simp
  refine concat_meets ⟨_, ho, rfl⟩ ⟨_, ho2, rfl⟩ noFill_list_add seq_list_add PySem.F.slot_list_add PySem.F.entry_list_add (PySem.F.args_list_add_2 _ _) (list_addW l b its.toArray its2.toArray n n2 _ _ _ _ (by rw [List.size_toArray, List.size_toArray]; omega)) ⟨ho, ho2, ?_⟩
  rw [ea]
  exact ⟨.ref _, _, I.lnew (t' := s.toks) (r.append r2) (by rw [List.length_append]; omega), rfl, q _ I.fresh⟩

theorem Pk.int {K : PySem.W.Frag} {g : Gh} {i : Int} {v : V} (h : Pk K g (.int i) v) : v = .int i := Has.int_inv h
theorem Pk.bl {K : PySem.W.Frag} {g : Gh} {i : Bool} {v : V} (h : Pk K g (.bool i) v) : v = .bl i := Has.bl_inv h
theorem Pk.str {K : PySem.W.Frag} {g : Gh} {i : Str} {v : V} (h : Pk K g (.str i) v) : v = .str i := Has.str_inv h
theorem Pk.non {K : PySem.W.Frag} {g : Gh} {v : V} (h : Pk K g .none v) : v = .non := Has.non_inv h
theorem Pk.lst {K : PySem.W.Frag} {g : Gh} {ds : List PyData} {v : V} (h : Pk K g (.list ds) v) : ∃ a xs, v = .ref a ∧ SqL K g.H a xs ∧ HasL K g.F ds xs := h
theorem Pk.tup {K : PySem.W.Frag} {st : Store} {g : Gh} (w : Wd K st g) {ds : List PyData} {v : V} (h : Pk K g (.tuple ds) v) : ∃ a xs, v = .ref a ∧ SqT K g.H a xs ∧ HasL K g.F ds xs := by
  obtain ⟨a, xs, e, s, l⟩ := Has.tup_inv h
  exact ⟨a, xs, e, seqT_mono w.sub s, l⟩
/-- the tuple itself, as a frozen one -/
theorem Pk.tupF {K : PySem.W.Frag} {g : Gh} {ds : List PyData} {v : V} (h : Pk K g (.tuple ds) v) : ∃ a xs, v = .ref a ∧ g.F a = some (.tup xs) ∧ HasL K g.F ds xs := Has.tup_invX h

def addP : PyData → PyData → R PyData
  | .int i, .int j => .ok (.int (i + j))
  | .int i, .bool b => .ok (.int (i + b2i b))
  | .str x, .str y => if x.length + y.length ≤ LIM then .ok (.str (x ++ y)) else .bad
  | .list a, .list b => if a.length + b.length ≤ LIM then .ok (.list (a ++ b)) else .bad
  | .tuple a, .tuple b => if a.length + b.length ≤ LIM then .ok (.tuple (a ++ b)) else .bad
  | _, _ => .bad
theorem ov_add : OpV X W (binaryOp .Add) addP := by
  refine ⟨_, op_add.or (op_add_ib.or (op_add_str.or (op_catL.or op_catA))), fun ρ st σ g x y v u Q rel hx hy k => ?_⟩
  cases x with
  | int i =>
    cases y with
    | int j => exact .inl ⟨i, j, hx.int, hy.int, okP_fin rel (.int _) k⟩
    | bool b => exact .inr (.inl ⟨i, b, hx.int, hy.bl, okP_fin rel (.int _) k⟩)
    | _ => exact k.elim
  | str i =>
    cases y with
    | str j =>
      simp only [addP] at k
      split at k
      · rename_i hl
        exact .inr (.inr (.inl ⟨i, j, hx.str, hy.str, by rw [lim_eq]; exact hl, okP_fin rel (.str _) k⟩))
      · exact k.elim
    | _ => exact k.elim
  | list a =>
    cases y with
    | list b =>
      simp only [addP] at k
      split at k
      · rename_i hl
        obtain ⟨p, xs, rfl, s1, l1⟩ := hx.lst
        obtain ⟨q, ys, rfl, s2, l2⟩ := hy.lst
        exact .inr (.inr (.inr (.inl ⟨p, q, xs, ys, rfl, rfl, s1, s2, by rw [lim_eq, l1.1, l2.1]; exact hl, okP_newL rel (l1.append l2) k⟩)))
      · exact k.elim
    | _ => exact k.elim
  | tuple a =>
    cases y with
    | tuple b =>
      simp only [addP] at k
      split at k
      · rename_i hl
        obtain ⟨p, xs, rfl, s1, l1⟩ := hx.tupF
        obtain ⟨q, ys, rfl, s2, l2⟩ := hy.tupF
        refine .inr (.inr (.inr (.inr ⟨p, q, xs, ys, rfl, rfl, seqT_mono rel.wd.sub (.inl (.inl s1)), seqT_mono rel.wd.sub (.inl (.inl s2)), by rw [lim_eq, l1.1, l2.1]; exact hl, ?_⟩)))
        refine ⟨fun e => ?_, fun e1 e2 => ?_, fun e1 e2 => okP_newT rel (l1.append l2) k⟩
        · subst e
          have : a = [] := List.eq_nil_of_length_eq_zero (by rw [← l1.1]; rfl)
          subst this
          exact okP_fin rel (.tup' s2 l2) k
        · subst e2
          have : b = [] := List.eq_nil_of_length_eq_zero (by rw [← l2.1]; rfl)
          subst this
          rw [List.append_nil] at k
          exact okP_fin rel (.tup' s1 l1) k
      · exact k.elim
    | _ => exact k.elim
  | _ => exact k.elim

/-- an operation of two ints -/
def intP (C : Int → Int → Prop) [∀ i j, Decidable (C i j)] (g : Int → Int → PyData) : PyData → PyData → R PyData
  | .int i, .int j => if C i j then .ok (g i j) else .bad
  | _, _ => .bad
theorem ov_int {f : Value → Value → Sem Value} {C : Int → Int → Prop} [∀ i j, Decidable (C i j)] {gv : Int → Int → V} {gd : Int → Int → PyData} (h : OpR X f (rI C gv)) (hh : ∀ F i j, Has X.K F (gd i j) (gv i j)) : OpV X W f (intP C gd) := by
  refine ⟨_, h, fun ρ st σ g x y v u Q rel hx hy k => ?_⟩
  cases x with
  | int i =>
    cases y with
    | int j =>
      simp only [intP] at k
      split at k
      · rename_i hc
        exact ⟨i, j, hx.int, hy.int, hc, okP_fin rel (hh _ i j) k⟩
      · exact k.elim
    | _ => exact k.elim
  | _ => exact k.elim
theorem ov_int0 {f : Value → Value → Sem Value} {gv : Int → Int → V} {gd : Int → Int → PyData} (h : OpR X f (rI0 gv)) (hh : ∀ F i j, Has X.K F (gd i j) (gv i j)) : OpV X W f (intP (fun _ _ => True) gd) := by
  refine ⟨_, h, fun ρ st σ g x y v u Q rel hx hy k => ?_⟩
  cases x with
  | int i =>
    cases y with
    | int j =>
      simp only [intP, if_true] at k
      exact ⟨i, j, hx.int, hy.int, okP_fin rel (hh _ i j) k⟩
    | _ => exact k.elim
  | _ => exact k.elim
instance (i j : Int) : Decidable (CDivW i j) := by unfold CDivW; infer_instance
instance (i j : Int) : Decidable (CMulW i j) := by unfold CMulW; infer_instance
instance (i j : Int) : Decidable (CPow i j) := by unfold CPow; infer_instance
abbrev subP := intP (fun _ _ => True) fun i j => .int (i - j)
theorem ov_sub : OpV X W (binaryOp .Sub) subP := ov_int0 op_sub fun _ _ _ => .int _
abbrev fdivP := intP CDivW fun i j => .int (i / j)
theorem ov_fdiv : OpV X W (binaryOp .FloorDiv) fdivP := ov_int op_fdivW fun _ _ _ => .int _
abbrev modP := intP (fun _ j => 0 < j) fun i j => .int (i % j)
theorem ov_mod : OpV X W (binaryOp .Mod) modP := ov_int op_mod fun _ _ _ => .int _
abbrev powP := intP CPow fun i j => .int (i ^ j.toNat)
theorem ov_pow : OpV X W (binaryOp .Pow) powP := ov_int op_pow fun _ _ _ => .int _
abbrev shlP := intP CPow fun i j => .int (i * 2 ^ j.toNat)
theorem ov_shl : OpV X W (binaryOp .LShift) shlP := ov_int op_shl fun _ _ _ => .int _
abbrev shrP := intP (fun _ j => 0 ≤ j) fun i j => .int (i / 2 ^ j.toNat)
theorem ov_shr : OpV X W (binaryOp .RShift) shrP := ov_int op_shr fun _ _ _ => .int _
abbrev xorP := intP (fun _ _ => True) fun i j => .int (Builtin.bitXor i j)
theorem ov_xor : OpV X W (binaryOp .BitXor) xorP := ov_int0 op_xor fun _ _ _ => .int _
abbrev andP := intP (fun _ _ => True) fun i j => .int (Builtin.bitAnd i j)
theorem ov_and : OpV X W (binaryOp .BitAnd) andP := ov_int0 op_and fun _ _ _ => .int _
abbrev orP := intP (fun _ _ => True) fun i j => .int (Builtin.bitOr i j)
theorem ov_or : OpV X W (binaryOp .BitOr) orP := ov_int0 op_or fun _ _ _ => .int _

/-- list times int, any list that is read -/
def rRepL (K : PySem.W.Frag) : R2 := fun x y H Q => ∃ l k xs, x = .ref l ∧ y = .int k ∧ Rd H l (.lst xs) ∧ -(2 ^ 63) ≤ k ∧ k < 2 ^ 63 ∧ xs.length * k.toNat ≤ sizeLine ∧
  ∀ p, H p = none → Q (.ref p) (upd H p (.lst (List.replicate k.toNat xs).flatten))

/-! ### equality, order, in -/
def eqP (neg : Bool) (x y : PyData) : R PyData := if SeqAt.shaped x = true ∧ SeqAt.shaped y = true then .ok (.bool (PyData.eqv x y != neg)) else .bad
theorem canLay_shaped {d : PyData} (h : SeqAt.shaped d = true) : d.canLay0 = true := SeqAt.canLay_of_shaped h
theorem ov_eq (hu : X.A.units + 64 < cLine) : OpV X W (compareOp .Eq) (eqP false) := by
  refine ⟨_, op_eqD hu, fun ρ st σ g x y v u Q rel hx hy k => ?_⟩
  simp only [eqP] at k
  split at k
  · rename_i hs
    refine ⟨x, y, hx.dp rel.wd (canLay_shaped hs.1), hy.dp rel.wd (canLay_shaped hs.2), hs.1, hs.2, okP_fin rel (?_ : Has X.K g.F _ _) k⟩
    rw [Bool.bne_false]; exact .bl _
  · exact k.elim
theorem ov_ne (hu : X.A.units + 64 < cLine) : OpV X W (compareOp .NotEq) (eqP true) := by
  refine ⟨_, op_neD hu, fun ρ st σ g x y v u Q rel hx hy k => ?_⟩
  simp only [eqP] at k
  split at k
  · rename_i hs
    refine ⟨x, y, hx.dp rel.wd (canLay_shaped hs.1), hy.dp rel.wd (canLay_shaped hs.2), hs.1, hs.2, okP_fin rel (?_ : Has X.K g.F _ _) k⟩
    rw [Bool.bne_true]; exact .bl _
  · exact k.elim
/-- by a rule of the library over values that read as data -/
theorem opR_data {op : CmpOp} {C : PyData → PyData → Prop} {g : PyData → PyData → Bool}
    (rule : ∀ (s : Shared) (x y : PyData) (v u : Value) (as bs : List Addr) (Q : Value → Shared → Prop) (E : Value → Shared → Prop), C x y → Reads s.heap v x as → Reads s.heap u y bs → Q (.bool (g x y)) s → wpAny (model X.prog X.w) X.A (compareOp op v u) Q E s) :
    OpR X (compareOp op) (fun v u H Q => ∃ x y, Dp X.K H v x ∧ Dp X.K H u y ∧ C x y ∧ Q (.bl (g x y)) H) := by
  intro pins s σ H v u vv uu Q I rv ru h
  obtain ⟨x, y, hx, hy, hc, q⟩ := h
  obtain ⟨as, r1⟩ := Dp.reads I x v vv hx rv
  obtain ⟨bs, r2⟩ := Dp.reads I y u uu hy ru
  exact rule s x y vv uu as bs _ _ hc r1 r2 ⟨.bl _, H, I, rfl, q⟩
theorem ov_data {op : CmpOp} {C : PyData → PyData → Prop} [∀ x y, Decidable (C x y)] {g : PyData → PyData → Bool} (hC : ∀ x y, C x y → x.canLay0 = true ∧ y.canLay0 = true)
    (rule : ∀ (s : Shared) (x y : PyData) (v u : Value) (as bs : List Addr) (Q : Value → Shared → Prop) (E : Value → Shared → Prop), C x y → Reads s.heap v x as → Reads s.heap u y bs → Q (.bool (g x y)) s → wpAny (model X.prog X.w) X.A (compareOp op v u) Q E s) :
    OpV X W (compareOp op) (fun x y => if C x y then .ok (.bool (g x y)) else .bad) := by
  refine ⟨_, opR_data rule, fun ρ st σ gh x y v u Q rel hx hy k => ?_⟩
  have k : KR (WN X.K W ρ σ gh) (okE X.K ρ σ Q gh) ((if C x y then R.ok (PyData.bool (g x y)) else R.bad) >>= fun d => .ok (.p d, st)) := k
  split at k
  · rename_i hc
    exact ⟨x, y, hx.dp rel.wd (hC x y hc).1, hy.dp rel.wd (hC x y hc).2, hc, okP_fin rel (.bl _) k⟩
  · exact k.elim
/-- an order is asked -/
def isNone : PyData → Bool
  | .none => true
  | _ => false
def OrdOk (x y : PyData) : Prop := (SeqAt.shaped x && SeqAt.shaped y && PySem.W.alike x y && !isNone x) = true
instance (x y : PyData) : Decidable (OrdOk x y) := by unfold OrdOk; infer_instance
theorem OrdOk.all {x y : PyData} (h : OrdOk x y) : SeqAt.shaped x = true ∧ SeqAt.shaped y = true ∧ PySem.W.alike x y = true ∧ x ≠ .none := by
  unfold OrdOk at h
  simp only [Bool.and_eq_true, Bool.not_eq_true'] at h
  refine ⟨h.1.1.1, h.1.1.2, h.1.2, fun e => ?_⟩
  rw [e] at h
  simp [isNone] at h
theorem depth_shaped {d : PyData} (h : SeqAt.shaped d = true) : d.depth ≤ 64 := by
  unfold SeqAt.shaped at h
  simp only [Bool.and_eq_true, decide_eq_true_eq] at h
  exact h.2
theorem OrdOk.lay (x y : PyData) (h : OrdOk x y) : x.canLay0 = true ∧ y.canLay0 = true := ⟨canLay_shaped h.all.1, canLay_shaped h.all.2.1⟩
def ltP (x y : PyData) : R PyData := if OrdOk x y then .ok (.bool (PySem.W.dataLt x y)) else .bad
def gtP (x y : PyData) : R PyData := if OrdOk x y then .ok (.bool (PySem.W.dataLt y x)) else .bad
def leP (x y : PyData) : R PyData := if OrdOk x y then .ok (.bool (!PySem.W.dataLt y x)) else .bad
def geP (x y : PyData) : R PyData := if OrdOk x y then .ok (.bool (!PySem.W.dataLt x y)) else .bad
theorem ov_lt (hu : X.A.units + 64 < cLine) : OpV X W (compareOp .Lt) ltP :=
  ov_data OrdOk.lay fun s x y v u as bs Q E h r1 r2 q => PySem.W.lt_data r1 r2 h.all.2.2.1 h.all.2.2.2 (by have := depth_shaped h.all.1; omega) q
theorem ov_gt (hu : X.A.units + 64 < cLine) : OpV X W (compareOp .Gt) gtP :=
  ov_data OrdOk.lay fun s x y v u as bs Q E h r1 r2 q => PySem.W.gt_data r1 r2 h.all.2.2.1 h.all.2.2.2 (by have := depth_shaped h.all.1; omega) q
theorem ov_le (hu : X.A.units + 64 < cLine) : OpV X W (compareOp .LtE) leP :=
  ov_data OrdOk.lay fun s x y v u as bs Q E h r1 r2 q => PySem.W.le_data r1 r2 h.all.2.2.1 h.all.2.2.2 (by have := depth_shaped h.all.1; omega) q
theorem ov_ge (hu : X.A.units + 64 < cLine) : OpV X W (compareOp .GtE) geP :=
  ov_data OrdOk.lay fun s x y v u as bs Q E h r1 r2 q => PySem.W.ge_data r1 r2 h.all.2.2.1 h.all.2.2.2 (by have := depth_shaped h.all.1; omega) q

/-- x in a list or a tuple -/
def itemsOf : PyData → Option (List PyData)
  | .list xs => some xs
  | .tuple xs => some xs
  | _ => none
def InOk (x c : PyData) : Prop := (SeqAt.shaped x && SeqAt.shaped c && (itemsOf c).isSome) = true
instance (x y : PyData) : Decidable (InOk x y) := by unfold InOk; infer_instance
def inB (x c : PyData) : Bool := ((itemsOf c).getD []).any fun z => PyData.eqv z x
theorem InOk.all {x y : PyData} (h : InOk x y) : SeqAt.shaped x = true ∧ SeqAt.shaped y = true ∧ (itemsOf y).isSome = true := by
  unfold InOk at h
  simp only [Bool.and_eq_true] at h
  exact ⟨h.1.1, h.1.2, h.2⟩
theorem InOk.lay (x y : PyData) (h : InOk x y) : x.canLay0 = true ∧ y.canLay0 = true := ⟨canLay_shaped h.all.1, canLay_shaped h.all.2.1⟩
def inP (x c : PyData) : R PyData := if InOk x c then .ok (.bool (inB x c)) else .bad
def notInP (x c : PyData) : R PyData := if InOk x c then .ok (.bool (!inB x c)) else .bad
theorem ov_in (hu : X.A.units + 65 < cLine) : OpV X W (compareOp .In) inP :=
  ov_data InOk.lay fun s x y v u as bs Q E h r1 r2 q => by
    obtain ⟨h1, h2, h3⟩ := h.all
    cases y with
    | list ds => exact SeqAt.in_list_reads r2 r1 (SeqAt.canLay_of_shaped h2) (SeqAt.canLay_of_shaped h1) (room_in_shaped h1 hu) q
    | tuple ds => exact SeqAt.in_tuple_reads r2 r1 (SeqAt.canLay_of_shaped h2) (SeqAt.canLay_of_shaped h1) (room_in_shaped h1 hu) q
    | _ => simp [itemsOf] at h3
theorem ov_notIn (hu : X.A.units + 65 < cLine) : OpV X W (compareOp .NotIn) notInP :=
  ov_data InOk.lay fun s x y v u as bs Q E h r1 r2 q => by
    obtain ⟨h1, h2, h3⟩ := h.all
    cases y with
    | list ds => exact SeqAt.notIn_list_reads r2 r1 (SeqAt.canLay_of_shaped h2) (SeqAt.canLay_of_shaped h1) (room_in_shaped h1 hu) q
    | tuple ds => exact SeqAt.notIn_tuple_reads r2 r1 (SeqAt.canLay_of_shaped h2) (SeqAt.canLay_of_shaped h1) (room_in_shaped h1 hu) q
    | _ => simp [itemsOf] at h3

/-! ### is -/
theorem Pk.non_iff {K : PySem.W.Frag} {g : Gh} {d : PyData} {v : V} (h : Pk K g d v) : decide (v = .non) = isNone d := by
  cases d with
  | none => rw [Has.non_inv h]; rfl
  | bool b => rw [Has.bl_inv h]; rfl
  | int b => rw [Has.int_inv h]; rfl
  | str b => rw [Has.str_inv h]; rfl
  | tuple b => obtain ⟨a, xs, rfl, _⟩ := Has.tup_inv h; rfl
  | list b => obtain ⟨a, xs, rfl, _⟩ := h; rfl
  | dict b => obtain ⟨a, rfl, _⟩ := h; rfl
/-- is None; is of two truth values -/
def isP (neg : Bool) : PyData → PyData → R PyData
  | x, .none => .ok (.bool (isNone x != neg))
  | .bool a, .bool b => .ok (.bool (decide (a = b) != neg))
  | _, _ => .bad
theorem ov_is : OpV X W (compareOp .Is) (isP false) := by
  refine ⟨_, op_isN.or op_isBl, fun ρ st σ g x y v u Q rel hx hy k => ?_⟩
  cases y with
  | none =>
    refine .inl ⟨hy.non, okP_fin rel (?_ : Has X.K g.F _ _) k⟩
    rw [hx.non_iff, Bool.bne_false]; exact .bl _
  | bool b =>
    cases x with
    | bool a => exact .inr ⟨a, b, hx.bl, hy.bl, okP_fin rel (by rw [Bool.bne_false]; exact .bl _) k⟩
    | _ => exact k.elim
  | _ => cases x <;> exact k.elim
theorem ov_isNot : OpV X W (compareOp .IsNot) (isP true) := by
  refine ⟨_, op_notN.or op_notBl, fun ρ st σ g x y v u Q rel hx hy k => ?_⟩
  cases y with
  | none =>
    refine .inl ⟨hy.non, okP_fin rel (?_ : Has X.K g.F _ _) k⟩
    rw [hx.non_iff, Bool.bne_true]; exact .bl _
  | bool b =>
    cases x with
    | bool a => exact .inr ⟨a, b, hx.bl, hy.bl, okP_fin rel (by rw [Bool.bne_true]; exact .bl _) k⟩
    | _ => exact k.elim
  | _ => cases x <;> exact k.elim
end
end VL

namespace VL
open PySem PySem.Spec PyProof.Rows L2
section
variable {X : Cx} {W : Wish}

/-! ### a value, then an operation upon what it holds -/
/-- an operation upon one value: r is its reading by values, o its meaning -/
def UnV (X : Cx) (W : Wish) (r : V → Hp → VK → Prop) (o : PyData → R PyData) : Prop :=
  ∀ (ρ : Slots) (st : Store) (σ : L2.St) (g : Gh) (x : PyData) (v : V) (Q : VK), Rel X.K ρ st σ g → Pk X.K g x v → KR (WN X.K W ρ σ g) (okE X.K ρ σ Q g) (o x >>= fun d => .ok (.p d, st)) → r v g.H Q
def vUn (o : PyData → R PyData) (f : FE) : FE := fun ρ st => f ρ st >>= fun a => peek a.2 a.1 >>= fun x => o x >>= fun d => .ok (.p d, a.2)
theorem peek_exc {st : Store} {x : Vd} {n : Str} {s : Store} : peek st x ≠ .exc n s := by
  cases x with
  | p d => simp [peek]
  | loc k => simp only [peek]; split <;> simp
theorem un_run {r : V → Hp → VK → Prop} {o : PyData → R PyData} {e : Expr} {f : FE} (ho : UnV X W r o) (ha : VE X W e f) :
    ∃ t, PE X e t ∧ ∀ ρ st σ g Q, Rel X.K ρ st σ g → KE X.K W ρ σ g Q (vUn o f ρ st) → t σ g.H fun v H1 => r v H1 Q := by
  obtain ⟨t, pe, run⟩ := ha.run
  refine ⟨t, pe, fun ρ st σ g Q rel k => ?_⟩
  refine run ρ st σ g _ (okE X.K ρ σ Q) _ okE.goes rel k fun d1 st1 v1 g1 e1 r1 h1 k1 => ?_
  cases p1 : peek st1 d1 with
  | bad => rw [p1] at k1; exact k1.elim
  | exc n s => exact (peek_exc p1).elim
  | ok x =>
    simp only [p1] at k1
    exact ho ρ st1 σ g1 x v1 Q r1 (pk_of r1.wd h1 p1) k1
def negP : PyData → R PyData
  | .int i => .ok (.int (-i))
  | _ => .bad
theorem ve_neg {e : Expr} {f : FE} {pos : Pos} (h : VE X W e f) : VE X W (.UnaryOp .USub e pos) (vUn negP f) := by
  have ho : UnV X W (rU fun i => .int (-i)) negP := fun ρ st σ g x v Q rel hx k => by
    cases x with
    | int i => exact ⟨i, hx.int, okP_fin rel (.int _) k⟩
    | _ => exact k.elim
  obtain ⟨t, pe, run⟩ := un_run ho h
  exact ⟨_, pe_un un_neg pe, run⟩

/-! ### tests -/
def tC0 (b : Bool) : FT := fun _ st => .ok (b, st)
/-- a value's truth -/
def truP : PyData → R Bool
  | .none => .ok false
  | .bool b => .ok b
  | .int i => .ok (i != 0)
  | .str x => if x.length ≤ LIM then .ok ((x.length : Int) != 0) else .bad
  | .list xs => .ok (!xs.isEmpty)
  | .tuple xs => .ok (!xs.isEmpty)
  | .dict _ => .bad
def vTru (f : FE) : FT := fun ρ st => f ρ st >>= fun a => peek a.2 a.1 >>= fun x => truP x >>= fun b => .ok (b, a.2)
/-- a value known to be a truth value, as a test -/
theorem vt_val {e : Expr} {f : FE} (h : VE X W e f) (he : ∀ whole, isTrue e X.env whole = (do let v ← whole; standAt e.pos; holding [v] (truthy v)) := by intro _; rfl) : VT X W e (asB f) := by
  obtain ⟨t, pe, run⟩ := h
  refine ⟨_, pt_val pe he, fun ρ st σ g Q rel kr => run ρ st σ g _ rel ?_⟩
  refine KR.mono (KR.bind kr) (fun z hz v g' e r' hv => ?_) fun n s hn => hn
  obtain ⟨d, st'⟩ := z
  cases d with
  | loc _ => exact hz.elim
  | p d =>
    cases d with
    | bool b => exact ⟨b, hv.bl_inv, hz g' e r'⟩
    | _ => exact hz.elim
def tNot (f : FT) : FT := fun ρ st => f ρ st >>= fun a => .ok (!a.1, a.2)
theorem vt_not {e : Expr} {f : FT} {pos : Pos} (h : VT X W e f) : VT X W (.UnaryOp .Not e pos) (tNot f) := by
  obtain ⟨t, pe, run⟩ := h.run
  refine ⟨_, pt_not pe, fun ρ st σ g Q rel kr => ?_⟩
  exact run ρ st σ g _ (okT X.K ρ σ Q) _ okT.goes rel kr fun d1 st1 g1 e1 r1 k1 => k1 g1 (Ext.refl g1) r1
def vAnd (f h : FT) : FT := fun ρ st => f ρ st >>= fun a => if a.1 = true then h ρ a.2 else .ok (false, a.2)
def vOr (f h : FT) : FT := fun ρ st => f ρ st >>= fun a => if a.1 = true then .ok (true, a.2) else h ρ a.2
theorem vw_and1 {a : Expr} {f : FT} {pos : Pos} (h : VT X W a f) : VWt X W (.BoolOp .And [a] pos) f := let ⟨t, p, r⟩ := h; ⟨t, pw_and1 p, r⟩
theorem vw_or1 {a : Expr} {f : FT} {pos : Pos} (h : VT X W a f) : VWt X W (.BoolOp .Or [a] pos) f := let ⟨t, p, r⟩ := h; ⟨t, pw_or1 p, r⟩
theorem vw_and {a b : Expr} {rest : List Expr} {f h : FT} {pos : Pos} (ha : VT X W a f) (hb : VWt X W (.BoolOp .And (b :: rest) pos) h) : VWt X W (.BoolOp .And (a :: b :: rest) pos) (vAnd f h) := by
  obtain ⟨t, p, run⟩ := ha.run
  obtain ⟨u, q, run2⟩ := hb
  refine ⟨_, pw_and p q, fun ρ st σ g Q rel kr => ?_⟩
  refine run ρ st σ g _ (okT X.K ρ σ Q) _ okT.goes rel kr fun d1 st1 g1 e1 r1 k1 => ?_
  cases d1 with
  | true => rw [if_pos rfl] at k1 ⊢; exact run2 ρ st1 σ g1 Q r1 k1
  | false => exact k1 g1 (Ext.refl g1) r1
theorem vw_or {a b : Expr} {rest : List Expr} {f h : FT} {pos : Pos} (ha : VT X W a f) (hb : VWt X W (.BoolOp .Or (b :: rest) pos) h) : VWt X W (.BoolOp .Or (a :: b :: rest) pos) (vOr f h) := by
  obtain ⟨t, p, run⟩ := ha.run
  obtain ⟨u, q, run2⟩ := hb
  refine ⟨_, pw_or p q, fun ρ st σ g Q rel kr => ?_⟩
  refine run ρ st σ g _ (okT X.K ρ σ Q) _ okT.goes rel kr fun d1 st1 g1 e1 r1 k1 => ?_
  cases d1 with
  | true => exact k1 g1 (Ext.refl g1) r1
  | false => exact run2 ρ st1 σ g1 Q r1 k1
/-- and, or, not as values: of truth values -/
def vAndV (f h : FE) : FE := fun ρ st => asB f ρ st >>= fun a => if a.1 = true then h ρ a.2 else .ok (.p (.bool false), a.2)
def vOrV (f h : FE) : FE := fun ρ st => asB f ρ st >>= fun a => if a.1 = true then .ok (.p (.bool true), a.2) else h ρ a.2
theorem asB_run {e : Expr} {f : FE} (h : VE X W e f) : ∃ t, PE X e t ∧ ∀ {β : Type} (ρ : Slots) (st : Store) (σ : L2.St) (g : Gh) (P : VK) (ok : Gh → β → Prop) (k : Bool × Store → R β), Goes ok → Rel X.K ρ st σ g →
    KR (WN X.K W ρ σ g) (ok g) (asB f ρ st >>= k) →
    (∀ d st1 g1, Ext g g1 → Rel X.K ρ st1 σ g1 → KR (WN X.K W ρ σ g1) (ok g1) (k (d, st1)) → P (.bl d) g1.H) → t σ g.H P := by
  obtain ⟨t, pe, run⟩ := h.run
  refine ⟨t, pe, fun {β} ρ st σ g P ok k go rel kr hP => ?_⟩
  have e : (asB f ρ st >>= k) = (f ρ st >>= fun a => (match a.1 with | .p (.bool b) => R.ok (b, a.2) | _ => R.bad) >>= k) := by
    unfold asB
    cases f ρ st <;> rfl
  rw [e] at kr
  refine run ρ st σ g P ok _ go rel kr fun d st1 v g1 e1 r1 h1 k1 => ?_
  cases d with
  | loc _ => exact k1.elim
  | p d =>
    cases d with
    | bool b => rw [show v = .bl b from Has.bl_inv h1]; exact hP b st1 g1 e1 r1 k1
    | _ => exact k1.elim
theorem ve_one {a : Expr} {op} {f : FE} {pos : Pos} (h : VE X W a f) : VE X W (.BoolOp op [a] pos) f := let ⟨t, p, r⟩ := h; ⟨t, pe_one p, r⟩
theorem ve_and {a b : Expr} {rest : List Expr} {f h : FE} {pos : Pos} (ha : VE X W a f) (hb : VE X W (.BoolOp .And (b :: rest) pos) h) : VE X W (.BoolOp .And (a :: b :: rest) pos) (vAndV f h) := by
  obtain ⟨t, p, run⟩ := asB_run ha
  obtain ⟨u, q, run2⟩ := hb
  refine ⟨_, pe_and p q, fun ρ st σ g Q rel kr => ?_⟩
  refine run ρ st σ g _ (okE X.K ρ σ Q) _ okE.goes rel kr fun d1 st1 g1 e1 r1 k1 => ⟨d1, rfl, ?_⟩
  cases d1 with
  | true => rw [if_pos rfl] at k1 ⊢; exact run2 ρ st1 σ g1 Q r1 k1
  | false => rw [if_neg Bool.false_ne_true]; exact k1 _ g1 (Ext.refl g1) r1 (.bl false)
theorem ve_or {a b : Expr} {rest : List Expr} {f h : FE} {pos : Pos} (ha : VE X W a f) (hb : VE X W (.BoolOp .Or (b :: rest) pos) h) : VE X W (.BoolOp .Or (a :: b :: rest) pos) (vOrV f h) := by
  obtain ⟨t, p, run⟩ := asB_run ha
  obtain ⟨u, q, run2⟩ := hb
  refine ⟨_, pe_or p q, fun ρ st σ g Q rel kr => ?_⟩
  refine run ρ st σ g _ (okE X.K ρ σ Q) _ okE.goes rel kr fun d1 st1 g1 e1 r1 k1 => ⟨d1, rfl, ?_⟩
  cases d1 with
  | true => rw [if_pos rfl]; exact k1 _ g1 (Ext.refl g1) r1 (.bl true)
  | false => rw [if_neg Bool.false_ne_true] at k1 ⊢; exact run2 ρ st1 σ g1 Q r1 k1
def vNotV (f : FE) : FE := fun ρ st => asB f ρ st >>= fun a => .ok (.p (.bool (!a.1)), a.2)
theorem ve_not {a : Expr} {f : FE} {pos : Pos} (ha : VE X W a f) : VE X W (.UnaryOp .Not a pos) (vNotV f) := by
  obtain ⟨t, p, run⟩ := asB_run ha
  refine ⟨_, pe_not p, fun ρ st σ g Q rel kr => ?_⟩
  exact run ρ st σ g _ (okE X.K ρ σ Q) _ okE.goes rel kr fun d1 st1 g1 e1 r1 k1 => ⟨d1, rfl, k1 _ g1 (Ext.refl g1) r1 (.bl _)⟩
def vIf (c : FT) (f h : FE) : FE := fun ρ st => c ρ st >>= fun a => if a.1 = true then f ρ a.2 else h ρ a.2
theorem ve_if {c a b : Expr} {fc : FT} {f h : FE} {pos : Pos} (hc : VT X W c fc) (ha : VE X W a f) (hb : VE X W b h) : VE X W (.IfExp c a b pos) (vIf fc f h) := by
  obtain ⟨t, p, run⟩ := hc.run
  obtain ⟨ta, qa, ra⟩ := ha
  obtain ⟨tb, qb, rb⟩ := hb
  refine ⟨_, pe_ifExp p qa qb, fun ρ st σ g Q rel kr => ?_⟩
  refine run ρ st σ g _ (okE X.K ρ σ Q) _ okE.goes rel kr fun d1 st1 g1 e1 r1 k1 => ?_
  cases d1 with
  | true => rw [if_pos rfl] at k1 ⊢; exact ra ρ st1 σ g1 Q r1 k1
  | false => rw [if_neg Bool.false_ne_true] at k1 ⊢; exact rb ρ st1 σ g1 Q r1 k1

/-! ### a < b < c -/
def vChain (o o' : PyData → PyData → R PyData) (f h k : FE) : FE := fun ρ st => f ρ st >>= fun a => h ρ a.2 >>= fun b => peek b.2 a.1 >>= fun x => peek b.2 b.1 >>= fun y => o x y >>= fun d => match d with
  | .bool true => k ρ b.2 >>= fun c => peek c.2 b.1 >>= fun y' => peek c.2 c.1 >>= fun z => o' y' z >>= fun d => .ok (.p d, c.2)
  | .bool false => .ok (.p (.bool false), b.2)
  | _ => .bad
theorem op_exc {α : Type} {r : R α} (h : ∀ n s, r ≠ .exc n s) : (∃ a, r = .ok a) ∨ r = .bad := by
  cases r with
  | ok a => exact .inl ⟨a, rfl⟩
  | exc n s => exact (h n s rfl).elim
  | bad => exact .inr rfl
theorem peek_bind {β : Type} {ne : Str → Store → Prop} {ok : β → Prop} {st : Store} {x : Vd} {k : PyData → R β} (h : KR ne ok (peek st x >>= k)) : ∃ d, peek st x = .ok d ∧ KR ne ok (k d) := by
  rcases op_exc (r := peek st x) (fun n s => peek_exc) with ⟨d, e⟩ | e
  · rw [e] at h; exact ⟨d, e, h⟩
  · rw [e] at h; exact h.elim
theorem chain_run {r r' : R2} {o o' : PyData → PyData → R PyData} {a b c : Expr} {f h k : FE}
    (ho : ∀ (ρ : Slots) (st : Store) (σ : L2.St) (g : Gh) (x y : PyData) (v u : V) (Q : VK), Rel X.K ρ st σ g → Pk X.K g x v → Pk X.K g y u → KR (WN X.K W ρ σ g) (okE X.K ρ σ Q g) (o x y >>= fun d => .ok (.p d, st)) → r v u g.H Q)
    (ho' : ∀ (ρ : Slots) (st : Store) (σ : L2.St) (g : Gh) (x y : PyData) (v u : V) (Q : VK), Rel X.K ρ st σ g → Pk X.K g x v → Pk X.K g y u → KR (WN X.K W ρ σ g) (okE X.K ρ σ Q g) (o' x y >>= fun d => .ok (.p d, st)) → r' v u g.H Q)
    (hn : ∀ x y n s, o x y ≠ .exc n s) (ha : VE X W a f) (hb : VE X W b h) (hc : VE X W c k) :
    ∃ ta tb tc, PE X a ta ∧ PE X b tb ∧ PE X c tc ∧ ∀ ρ st σ g Q, Rel X.K ρ st σ g → KE X.K W ρ σ g Q (vChain o o' f h k ρ st) → tChain r r' ta tb tc σ g.H Q := by
  obtain ⟨ta, pa, ra⟩ := ha.run
  obtain ⟨tb, pb, rb⟩ := hb.run
  obtain ⟨tc, pc, rc⟩ := hc.run
  refine ⟨ta, tb, tc, pa, pb, pc, fun ρ st σ g Q rel kr => ?_⟩
  refine ra ρ st σ g _ (okE X.K ρ σ Q) _ okE.goes rel kr fun d1 st1 v1 g1 e1 r1 h1 k1 => ?_
  refine rb ρ st1 σ g1 _ (okE X.K ρ σ Q) _ okE.goes r1 k1 fun d2 st2 v2 g2 e2 r2 h2 k2 => ?_
  obtain ⟨x, px, k3⟩ := peek_bind k2
  obtain ⟨y, py, k4⟩ := peek_bind k3
  rcases op_exc (hn x y) with ⟨d, ed⟩ | ed
  · refine ho ρ st2 σ g2 x y v1 v2 _ r2 (pk_of r2.wd (h1.ext e2) px) (pk_of r2.wd h2 py) ?_
    simp only [ed] at k4 ⊢
    intro v g' e' r3 hv
    cases d with
    | bool b =>
      have hv : Has X.K g'.F (.bool b) v := hv
      refine ⟨b, hv.bl_inv, ?_⟩
      cases b with
      | true =>
        simp only [R.ok_bind] at k4
        have k4 : KR (WN X.K W ρ σ g2) (okE X.K ρ σ Q g2) (k ρ st2 >>= fun c => peek c.2 d2 >>= fun y' => peek c.2 c.1 >>= fun z => o' y' z >>= fun d => .ok (.p d, c.2)) := k4
        have k5 := KR.mono k4 (fun b hb => okE.goes g2 g' b e' hb) fun n s hn => hn.ext e'
        rw [if_pos rfl]
        refine rc ρ st2 σ g' _ (okE X.K ρ σ Q) _ okE.goes r3 k5 fun d3 st3 v3 g3 e3 r4 h3 k6 => ?_
        obtain ⟨y', py', k7⟩ := peek_bind k6
        obtain ⟨z, pz, k8⟩ := peek_bind k7
        exact ho' ρ st3 σ g3 y' z v2 v3 Q r4 (pk_of r4.wd ((h2.ext e').ext e3) py') (pk_of r4.wd h3 pz) k8
      | false =>
        rw [if_neg Bool.false_ne_true]
        exact k4 (.bl false) g' e' r3 (Has.bl false)
    | _ => exact k4.elim
  · simp only [ed] at k4; exact k4.elim
theorem ve_chain {op op' : CmpOp} {o o' : PyData → PyData → R PyData} {a b c : Expr} {f h k : FE} {pos : Pos} (ho : OpV X W (compareOp op) o) (ho' : OpV X W (compareOp op') o') (hn : ∀ x y n s, o x y ≠ .exc n s)
    (ha : VE X W a f) (hb : VE X W b h) (hc : VE X W c k) (hm : lastMarks [op, op'] [b, c] = false := by with_unfolding_all rfl) : VE X W (.Compare a [op, op'] [b, c] pos) (vChain o o' f h k) := by
  obtain ⟨r, h1, h2⟩ := ho
  obtain ⟨r', h3, h4⟩ := ho'
  obtain ⟨ta, tb, tc, pa, pb, pc, run⟩ := chain_run h2 h4 hn ha hb hc
  exact ⟨_, pe_chain h1 h3 pa pb pc hm, run⟩
theorem vt_chain {op op' : CmpOp} {o o' : PyData → PyData → R PyData} {a b c : Expr} {f h k : FE} {pos : Pos} (ho : OpV X W (compareOp op) o) (ho' : OpV X W (compareOp op') o') (hn : ∀ x y n s, o x y ≠ .exc n s)
    (ha : VE X W a f) (hb : VE X W b h) (hc : VE X W c k) (hm : lastMarks [op, op'] [b, c] = false := by with_unfolding_all rfl) : VT X W (.Compare a [op, op'] [b, c] pos) (asB (vChain o o' f h k)) := by
  obtain ⟨r, h1, h2⟩ := ho
  obtain ⟨r', h3, h4⟩ := ho'
  obtain ⟨ta, tb, tc, pa, pb, pc, run⟩ := chain_run h2 h4 hn ha hb hc
  refine ⟨_, pt_chain h1 h3 pa pb pc hm, fun ρ st σ g Q rel kr => run ρ st σ g _ rel ?_⟩
  refine KR.mono (KR.bind kr) (fun z hz v g' e r' hv => ?_) fun n s hn => hn
  obtain ⟨d, st'⟩ := z
  cases d with
  | loc _ => exact hz.elim
  | p d =>
    cases d with
    | bool b => exact ⟨b, hv.bl_inv, hz g' e r'⟩
    | _ => exact hz.elim
theorem lt_nx (x y : PyData) (n : Str) (s : Store) : ltP x y ≠ .exc n s := by unfold ltP; split <;> simp
theorem le_nx (x y : PyData) (n : Str) (s : Store) : leP x y ≠ .exc n s := by unfold leP; split <;> simp
theorem gt_nx (x y : PyData) (n : Str) (s : Store) : gtP x y ≠ .exc n s := by unfold gtP; split <;> simp
theorem ge_nx (x y : PyData) (n : Str) (s : Store) : geP x y ≠ .exc n s := by unfold geP; split <;> simp
theorem eq_nx (b : Bool) (x y : PyData) (n : Str) (s : Store) : eqP b x y ≠ .exc n s := by unfold eqP; split <;> simp

/-! ### truth of anything -/
theorem Pk.tru {K : PySem.W.Frag} {st : Store} {g : Gh} (w : Wd K st g) {d : PyData} {v : V} {b : Bool} (h : Pk K g d v) (e : truP d = .ok b) : TruV K v g.H b := by
  cases d with
  | none => cases e; rw [Has.non_inv h]; rfl
  | bool c => cases e; rw [Has.bl_inv h]; rfl
  | int i => cases e; rw [Has.int_inv h]; rfl
  | str x =>
    simp only [truP] at e
    split at e
    · rename_i hl
      cases e
      rw [Has.str_inv h]
      exact ⟨by rw [lim_eq]; exact hl, rfl⟩
    · cases e
  | list xs =>
    cases e
    obtain ⟨a, vs, rfl, s, l⟩ := h
    refine .inl ⟨vs, s, ?_⟩
    cases xs with
    | nil => rw [l.nil_inv]; rfl
    | cons x r => obtain ⟨v, r', e, _⟩ := l.uncons; rw [e]; rfl
  | tuple xs =>
    cases e
    obtain ⟨a, vs, rfl, s, l⟩ := Pk.tup w h
    refine .inr (.inl ⟨vs, s, ?_⟩)
    cases xs with
    | nil => rw [l.nil_inv]; rfl
    | cons x r => obtain ⟨v, r', e, _⟩ := l.uncons; rw [e]; rfl
  | dict xs =>
    cases e
theorem vt_tru {e : Expr} {f : FE} (h : VE X W e f) (he : ∀ whole, isTrue e X.env whole = (do let v ← whole; standAt e.pos; holding [v] (truthy v)) := by intro _; rfl) : VT X W e (vTru f) := by
  obtain ⟨t, pe, run⟩ := h.run
  refine ⟨_, pt_truth pe he, fun ρ st σ g Q rel kr => ?_⟩
  refine run ρ st σ g _ (okT X.K ρ σ Q) _ okT.goes rel kr fun d1 st1 v g1 e1 r1 h1 k1 => ?_
  obtain ⟨x, px, k2⟩ := peek_bind k1
  cases et : truP x with
  | ok b => simp only [et] at k2; exact ⟨b, (pk_of r1.wd h1 px).tru r1.wd et, k2 g1 (Ext.refl g1) r1⟩
  | exc n s => cases x <;> simp only [truP] at et <;> (try split at et) <;> cases et
  | bad => simp only [et] at k2; exact k2.elim

/-! ### many expressions; displays -/
def aNil : FA := fun _ st => .ok ([], st)
def aCons (f : FE) (r : FA) : FA := fun ρ st => f ρ st >>= fun a => r ρ a.2 >>= fun b => .ok (a.1 :: b.1, b.2)
theorem HasVL.cons {K : PySem.W.Frag} {g : Gh} {d : Vd} {ds : List Vd} {v : V} {xs : List V} (h : HasV K g d v) (t : HasVL K g ds xs) : HasVL K g (d :: ds) (v :: xs) := by
  refine ⟨by simp [t.1], fun i e w he hw => ?_⟩
  cases i with
  | zero => simp at he hw; subst he; subst hw; exact h
  | succ i => exact t.2 i e w (by simpa using he) (by simpa using hw)
theorem HasVL.nil {K : PySem.W.Frag} {g : Gh} : HasVL K g [] [] := ⟨rfl, fun i d v h => by simp at h⟩
theorem HasVL.uncons {K : PySem.W.Frag} {g : Gh} {d : Vd} {ds : List Vd} {xs : List V} (t : HasVL K g (d :: ds) xs) : ∃ v r, xs = v :: r ∧ HasV K g d v ∧ HasVL K g ds r := by
  cases xs with
  | nil => exact absurd t.1 (by simp)
  | cons v r => exact ⟨v, r, rfl, t.2 0 d v rfl rfl, by simpa using t.1, fun i e w he hw => t.2 (i + 1) e w (by simpa using he) (by simpa using hw)⟩
theorem HasVL.nil_inv {K : PySem.W.Frag} {g : Gh} {xs : List V} (t : HasVL K g [] xs) : xs = [] := List.eq_nil_of_length_eq_zero t.1
theorem HasVL.ext {K : PySem.W.Frag} {g g' : Gh} (e : Ext g g') {ds : List Vd} {xs : List V} (h : HasVL K g ds xs) : HasVL K g' ds xs := ⟨h.1, fun i d v a b => (h.2 i d v a b).ext e⟩
theorem va_nil : VA X W [] aNil := ⟨_, pa_nil, fun ρ st σ g Q rel k => k [] g (Ext.refl g) rel .nil⟩
theorem va_cons {e : Expr} {es : List Expr} {f : FE} {r : FA} (h : VE X W e f) (t : VA X W es r) (hs : starEach (e :: es) X.env = (false, eval e X.env) :: starEach es X.env := by rfl) : VA X W (e :: es) (aCons f r) := by
  obtain ⟨te, pe, run⟩ := h.run
  obtain ⟨tr, pr, run2⟩ := t.run
  refine ⟨_, pa_cons pe pr hs, fun ρ st σ g Q rel k => ?_⟩
  refine run ρ st σ g _ (okA X.K ρ σ Q) _ okA.goes rel k fun d1 st1 v1 g1 e1 r1 h1 k1 => ?_
  refine run2 ρ st1 σ g1 _ (okA X.K ρ σ Q) _ okA.goes r1 k1 fun d2 st2 v2 g2 e2 r2 h2 k2 => ?_
  exact k2 _ g2 (Ext.refl g2) r2 (.cons (h1.ext e2) h2)
/-- all for good -/
def frzL : List Vd → Store → R (List PyData × Store)
  | [], st => .ok ([], st)
  | d :: ds, st => frz st d >>= fun a => frzL ds a.2 >>= fun b => .ok (a.1 :: b.1, b.2)
theorem frz_exc {st : Store} {x : Vd} {n : Str} {s : Store} : frz st x ≠ .exc n s := by
  cases x with
  | p d => simp [frz]
  | loc k => simp only [frz]; split <;> simp
theorem frz_bind {β : Type} {ne : Str → Store → Prop} {ok : β → Prop} {st : Store} {x : Vd} {k : PyData × Store → R β} (h : KR ne ok (frz st x >>= k)) : ∃ d, frz st x = .ok d ∧ KR ne ok (k d) := by
  rcases op_exc (r := frz st x) (fun n s => frz_exc) with ⟨d, e⟩ | e
  · rw [e] at h; exact ⟨d, e, h⟩
  · rw [e] at h; exact h.elim
theorem frzL_ok {K : PySem.W.Frag} {ρ : Slots} {σ : L2.St} : ∀ {ds : List Vd} {st st' : Store} {g : Gh} {vs : List V} {xs : List PyData}, Rel K ρ st σ g → HasVL K g ds vs → frzL ds st = .ok (xs, st') → ∃ g', g'.H = g.H ∧ Ext g g' ∧ Rel K ρ st' σ g' ∧ HasL K g'.F xs vs
  | [], st, st', g, vs, xs, r, h, e => by
    cases e
    rw [h.nil_inv]
    exact ⟨g, rfl, Ext.refl g, r, .nil⟩
  | d :: ds, st, st', g, vs, xs, r, h, e => by
    obtain ⟨v, vr, rfl, h1, h2⟩ := h.uncons
    simp only [frzL] at e
    cases e1 : frz st d with
    | bad => rw [e1] at e; cases e
    | exc n s => exact (frz_exc e1).elim
    | ok a =>
      rw [e1] at e
      simp only [R.ok_bind] at e
      obtain ⟨g1, q1, x1, r1, k1⟩ := frz_ok r h1 (st' := a.2) (d := a.1) e1
      cases e2 : frzL ds a.2 with
      | bad => rw [e2] at e; cases e
      | exc n s => rw [e2] at e; cases e
      | ok b =>
        rw [e2] at e
        cases e
        obtain ⟨g2, q2, x2, r2, k2⟩ := frzL_ok r1 (h2.ext x1) (xs := b.1) (st' := b.2) e2
        exact ⟨g2, q2.trans q1, x1.trans x2, r2, .cons (k1.ext x2) k2⟩
theorem frzL_exc : ∀ {ds : List Vd} {st : Store} {n : Str} {s : Store}, frzL ds st ≠ .exc n s
  | [], st, n, s => by simp [frzL]
  | d :: ds, st, n, s => by
    simp only [frzL]
    cases e1 : frz st d with
    | bad => simp
    | exc m s => exact (frz_exc e1).elim
    | ok a =>
      simp only [R.ok_bind]
      cases e2 : frzL ds a.2 with
      | bad => simp
      | exc m s => exact (frzL_exc e2).elim
      | ok b => simp
/-- the arguments for good -/
def fzA (f : FA) : Slots → Store → R (List PyData × Store) := fun ρ st => f ρ st >>= fun a => frzL a.1 a.2
theorem VA.fz {es : List Expr} {f : FA} (h : VA X W es f) : ∃ t, PA X es t ∧ ∀ {β : Type} (ρ : Slots) (st : Store) (σ : L2.St) (g : Gh) (P : List V → Hp → Prop) (ok : Gh → β → Prop) (k : List PyData × Store → R β), Goes ok → Rel X.K ρ st σ g →
    KR (WN X.K W ρ σ g) (ok g) (fzA f ρ st >>= k) →
    (∀ ds st1 vs g1, Ext g g1 → Rel X.K ρ st1 σ g1 → HasL X.K g1.F ds vs → KR (WN X.K W ρ σ g1) (ok g1) (k (ds, st1)) → P vs g1.H) → t σ g.H P := by
  obtain ⟨t, pa, run⟩ := h.run
  refine ⟨t, pa, fun {β} ρ st σ g P ok k go rel kr hP => ?_⟩
  have e : (fzA f ρ st >>= k) = (f ρ st >>= fun a => frzL a.1 a.2 >>= k) := by
    unfold fzA
    cases f ρ st <;> rfl
  rw [e] at kr
  refine run ρ st σ g P ok _ go rel kr fun d1 st1 v1 g1 e1 r1 h1 k1 => ?_
  cases e2 : frzL d1 st1 with
  | bad => simp only [e2] at k1; exact k1.elim
  | exc n s => exact (frzL_exc e2).elim
  | ok b =>
    simp only [e2] at k1
    obtain ⟨g2, q2, x2, r2, k2⟩ := frzL_ok r1 h1 (xs := b.1) (st' := b.2) e2
    rw [← q2]
    exact hP b.1 b.2 v1 g2 (e1.trans x2) r2 k2 (KR.mono k1 (fun b hb => go g1 g2 b x2 hb) fun n s hn => hn.ext x2)
def vTup (f : FA) : FE := fun ρ st => fzA f ρ st >>= fun a => if a.1.length ≤ LIM then .ok (.p (.tuple a.1), a.2) else .bad
def vLst (f : FA) : FE := fun ρ st => fzA f ρ st >>= fun a => if a.1.length ≤ LIM then .ok (.p (.list a.1), a.2) else .bad
theorem ve_tup {es : List Expr} {f : FA} {x1 pos} (h : VA X W es f) : VE X W (.Tuple es x1 pos) (vTup f) := by
  obtain ⟨t, pa, run⟩ := h.fz
  refine ⟨_, pe_tup pa, fun ρ st σ g Q rel k => ?_⟩
  refine run ρ st σ g _ (okE X.K ρ σ Q) _ okE.goes rel k fun ds st1 vs g1 e1 r1 h1 k1 => ?_
  split at k1
  · rename_i hl
    exact ⟨by rw [lim_eq, h1.1]; exact hl, okP_newT r1 h1 k1⟩
  · exact k1.elim
theorem ve_lst {es : List Expr} {f : FA} {pos} (h : VA X W es f) : VE X W (.List es pos) (vLst f) := by
  obtain ⟨t, pa, run⟩ := h.fz
  refine ⟨_, pe_lst pa, fun ρ st σ g Q rel k => ?_⟩
  refine run ρ st σ g _ (okE X.K ρ σ Q) _ okE.goes rel k fun ds st1 vs g1 e1 r1 h1 k1 => ?_
  split at k1
  · rename_i hl
    exact ⟨by rw [lim_eq, h1.1]; exact hl, okP_newL r1 h1 k1⟩
  · exact k1.elim

/-! ### x[i] -/
/-- an operation upon two values that hands out a thing that was there -/
def IxV (X : Cx) (W : Wish) (o : PyData → PyData → R PyData) : Prop :=
  ∃ r, IxR X r ∧ ∀ (ρ : Slots) (st : Store) (σ : L2.St) (g : Gh) (x y : PyData) (v u : V) (Q : VK), Rel X.K ρ st σ g → Pk X.K g x v → Pk X.K g y u →
    KR (WN X.K W ρ σ g) (okE X.K ρ σ Q g) (o x y >>= fun d => .ok (.p d, st)) → r v u g.H Q
theorem ve_ix {o : PyData → PyData → R PyData} {a b : Expr} {f h : FE} {pos : Pos} (ho : IxV X W o) (ha : VE X W a f) (hb : VE X W b h) (hs : PlainIx b := by intro _ _; rfl) : VE X W (.Subscript a b pos) (vBin o f h) := by
  obtain ⟨r, h1, h2⟩ := ho
  obtain ⟨ta, tb, pa, pb, k⟩ := bin_run h2 ha hb
  exact ⟨_, pe_ix h1 pa pb hs, k⟩
def optR {α : Type} : Option α → R α
  | some a => .ok a
  | none => .bad
def idxP : PyData → PyData → R PyData
  | .list xs, .int i => optR (atI xs i)
  | .tuple xs, .int i => optR (atI xs i)
  | .str x, .int i => if x.length ≤ LIM then optR ((atI x.cps.toList i).map fun c => .str ⟨#[c]⟩) else .bad
  | _, _ => .bad
theorem HasL.atI {K : PySem.W.Frag} {F : Hp} {ds : List PyData} {xs : List V} (h : HasL K F ds xs) {i : Int} {d : PyData} (e : L2.atI ds i = some d) : ∃ v, L2.atI xs i = some v ∧ Has K F d v := by
  unfold L2.atI at e ⊢
  rw [h.1]
  cases q : ixN ds.length i with
  | none => rw [q] at e; cases e
  | some j => rw [q] at e; exact h.get e
theorem ix_seqV : IxV X W idxP := by
  refine ⟨_, ix_seq, fun ρ st σ g x y v u Q rel hx hy k => ?_⟩
  cases x with
  | list xs =>
    cases y with
    | int i =>
      obtain ⟨a, vs, rfl, s, l⟩ := hx.lst
      simp only [idxP] at k
      cases e : atI xs i with
      | none => rw [e] at k; exact k.elim
      | some d =>
        rw [e] at k
        obtain ⟨w, h1, h2⟩ := l.atI e
        exact .inl ⟨a, vs, i, w, rfl, hy.int, s, h1, okP_fin rel h2 k⟩
    | _ => exact k.elim
  | tuple xs =>
    cases y with
    | int i =>
      obtain ⟨a, vs, rfl, s, l⟩ := Pk.tup rel.wd hx
      simp only [idxP] at k
      cases e : atI xs i with
      | none => rw [e] at k; exact k.elim
      | some d =>
        rw [e] at k
        obtain ⟨w, h1, h2⟩ := l.atI e
        exact .inr (.inl ⟨a, vs, i, w, rfl, hy.int, s, h1, okP_fin rel h2 k⟩)
    | _ => exact k.elim
  | str z =>
    cases y with
    | int i =>
      simp only [idxP] at k
      split at k
      · rename_i hl
        cases e : atI z.cps.toList i with
        | none => rw [e] at k; exact k.elim
        | some c =>
          rw [e] at k
          exact .inr (.inr ⟨z, i, c, hx.str, hy.int, by rw [lim_eq]; exact hl, e, okP_fin rel (.str _) k⟩)
      · exact k.elim
    | _ => exact k.elim
  | _ => cases y <;> exact k.elim

/-! ### x[i:j] -/
abbrev FO := Slots → Store → R (Option Int × Store)
def VO (X : Cx) (W : Wish) (e : Option Expr) (f : FO) : Prop :=
  ∃ t, PO X e t ∧ ∀ {β : Type} (ρ : Slots) (st : Store) (σ : L2.St) (g : Gh) (P : Option Int → Hp → Prop) (ok : Gh → β → Prop) (k : Option Int × Store → R β), Goes ok → Rel X.K ρ st σ g →
    KR (WN X.K W ρ σ g) (ok g) (f ρ st >>= k) →
    (∀ d st1 g1, Ext g g1 → Rel X.K ρ st1 σ g1 → KR (WN X.K W ρ σ g1) (ok g1) (k (d, st1)) → P d g1.H) → t σ g.H P
def oNone : FO := fun _ st => .ok (none, st)
def oSome (f : FE) : FO := fun ρ st => f ρ st >>= fun a => match a.1 with
  | .p (.int i) => .ok (some i, a.2)
  | _ => .bad
theorem vo_none : VO X W none oNone := ⟨_, po_none, fun ρ st σ g P ok k go rel kr hP => hP none st g (Ext.refl g) rel kr⟩
theorem vo_some {e : Expr} {f : FE} (h : VE X W e f) : VO X W (some e) (oSome f) := by
  obtain ⟨t, pe, run⟩ := h.run
  refine ⟨_, po_some pe, fun {β} ρ st σ g P ok k go rel kr hP => ?_⟩
  have e : (oSome f ρ st >>= k) = (f ρ st >>= fun a => (match a.1 with | .p (.int i) => R.ok (some i, a.2) | _ => R.bad) >>= k) := by
    unfold oSome
    cases f ρ st <;> rfl
  rw [e] at kr
  refine run ρ st σ g _ ok _ go rel kr fun d st1 v g1 e1 r1 h1 k1 => ?_
  cases d with
  | loc _ => exact k1.elim
  | p d =>
    cases d with
    | int i => exact ⟨i, Has.int_inv h1, hP (some i) st1 g1 e1 r1 k1⟩
    | _ => exact k1.elim
def cutD {α : Type} (xs : List α) (lo hi : Option Int) : List α := (xs.drop (HT.sIx xs.length 0 lo)).take (HT.sIx xs.length xs.length hi - HT.sIx xs.length 0 lo)
def slP : PyData → Option Int → Option Int → R PyData
  | .list xs, lo, hi => .ok (.list (cutD xs lo hi))
  | .tuple xs, lo, hi => .ok (.tuple (cutD xs lo hi))
  | _, _, _ => .bad
def vSl (f : FE) (l h : FO) : FE := fun ρ st => f ρ st >>= fun a => l ρ a.2 >>= fun b => h ρ b.2 >>= fun c => peek c.2 a.1 >>= fun x => slP x b.1 c.1 >>= fun d => .ok (.p d, c.2)
theorem HasL.cut {K : PySem.W.Frag} {F : Hp} {ds : List PyData} {xs : List V} (h : HasL K F ds xs) (lo hi : Option Int) : HasL K F (cutD ds lo hi) (cutV xs lo hi) := by
  unfold cutD cutV
  rw [h.1]
  exact (h.drop _).take _
theorem ve_slice {e : Expr} {f : FE} {lo hi : Option Expr} {l h : FO} {p2 pos : Pos} (he : VE X W e f) (hl : VO X W lo l) (hh : VO X W hi h) : VE X W (.Subscript e (.Slice lo hi none p2) pos) (vSl f l h) := by
  obtain ⟨t, pe, run⟩ := he.run
  obtain ⟨tl, pl, runl⟩ := hl
  obtain ⟨th, ph, runh⟩ := hh
  refine ⟨_, pe_slice (sl_list.or sl_tupA) pe pl ph, fun ρ st σ g Q rel k => ?_⟩
  refine run ρ st σ g _ (okE X.K ρ σ Q) _ okE.goes rel k fun d1 st1 v1 g1 e1 r1 h1 k1 => ?_
  refine runl ρ st1 σ g1 _ (okE X.K ρ σ Q) _ okE.goes r1 k1 fun d2 st2 g2 e2 r2 k2 => ?_
  refine runh ρ st2 σ g2 _ (okE X.K ρ σ Q) _ okE.goes r2 k2 fun d3 st3 g3 e3 r3 k3 => ?_
  obtain ⟨x, px, k4⟩ := peek_bind k3
  have hx := pk_of r3.wd ((h1.ext e2).ext e3) px
  cases x with
  | list xs =>
    obtain ⟨a, vs, rfl, s, l⟩ := hx.lst
    exact .inl ⟨a, vs, rfl, s, okP_newL r3 (l.cut d2 d3) k4⟩
  | tuple xs =>
    obtain ⟨a, vs, rfl, s, l⟩ := hx.tupF
    refine .inr ⟨a, vs, rfl, seqT_mono r3.wd.sub (.inl (.inl s)), fun hw => ?_, fun hw => okP_newT r3 (l.cut d2 d3) k4⟩
    refine okP_fin r3 (.tup' s ?_) k4
    have e : cutD xs d2 d3 = xs := by
      unfold cutD
      rw [← l.1, hw.1, hw.2, Nat.sub_zero, List.drop_zero, List.take_of_length_le (by rw [l.1]; exact Nat.le_refl _)]
    rw [e]; exact l
  | _ => exact k4.elim
end
end VL

namespace VL
open PySem PySem.Spec PyProof.Rows L2
open PySem.W (AlikeAll iter_listW iter_tupleW moved_old min_list_data min_tuple_data max_list_data max_tuple_data minD maxD)
section
variable {X : Cx} {W : Wish}

/-! ### a built-in's call upon what its arguments hold -/
def peekL (st : Store) : List Vd → R (List PyData)
  | [] => .ok []
  | d :: ds => peek st d >>= fun x => peekL st ds >>= fun r => .ok (x :: r)
theorem peekL_exc {st : Store} : ∀ {ds : List Vd} {n : Str} {s : Store}, peekL st ds ≠ .exc n s
  | [], n, s => by simp [peekL]
  | d :: ds, n, s => by
    simp only [peekL]
    cases e1 : peek st d with
    | bad => simp
    | exc m s => exact (peek_exc e1).elim
    | ok a =>
      simp only [R.ok_bind]
      cases e2 : peekL st ds with
      | bad => simp
      | exc m s => exact (peekL_exc e2).elim
      | ok b => simp
def PkL (K : PySem.W.Frag) (g : Gh) (ds : List PyData) (xs : List V) : Prop := Paired (fun v d => Pk K g d v) xs ds
theorem pkL_of {K : PySem.W.Frag} {st : Store} {g : Gh} (w : Wd K st g) : ∀ {ds : List Vd} {xs : List V} {ps : List PyData}, HasVL K g ds xs → peekL st ds = .ok ps → PkL K g ps xs
  | [], xs, ps, h, e => by
    cases e
    rw [h.nil_inv]; exact .nil
  | d :: ds, xs, ps, h, e => by
    obtain ⟨v, r, rfl, h1, h2⟩ := h.uncons
    simp only [peekL] at e
    cases e1 : peek st d with
    | bad => rw [e1] at e; cases e
    | exc m s => exact (peek_exc e1).elim
    | ok a =>
      rw [e1] at e
      simp only [R.ok_bind] at e
      cases e2 : peekL st ds with
      | bad => rw [e2] at e; cases e
      | exc m s => exact (peekL_exc e2).elim
      | ok b => rw [e2] at e; cases e; exact .cons (pk_of w h1 e1) (pkL_of w h2 e2)
def CallV (X : Cx) (W : Wish) (f : Value) (o : List PyData → R PyData) : Prop :=
  ∃ r, CallR X f r ∧ ∀ (ρ : Slots) (st : Store) (σ : L2.St) (g : Gh) (ds : List PyData) (vs : List V) (Q : VK), Rel X.K ρ st σ g → PkL X.K g ds vs →
    KR (WN X.K W ρ σ g) (okE X.K ρ σ Q g) (o ds >>= fun d => .ok (.p d, st)) → r vs g.H Q
def vCall (o : List PyData → R PyData) (fa : FA) : FE := fun ρ st => fa ρ st >>= fun a => peekL a.2 a.1 >>= fun ds => o ds >>= fun d => .ok (.p d, a.2)
theorem callV_run {es : List Expr} {fa : FA} {r : List V → Hp → VK → Prop} {o : List PyData → R PyData} (ho : ∀ (ρ : Slots) (st : Store) (σ : L2.St) (g : Gh) (ds : List PyData) (vs : List V) (Q : VK), Rel X.K ρ st σ g → PkL X.K g ds vs →
    KR (WN X.K W ρ σ g) (okE X.K ρ σ Q g) (o ds >>= fun d => .ok (.p d, st)) → r vs g.H Q) (h : VA X W es fa) :
    ∃ t, PA X es t ∧ ∀ ρ st σ g Q, Rel X.K ρ st σ g → KE X.K W ρ σ g Q (vCall o fa ρ st) → tCB r t σ g.H Q := by
  obtain ⟨t, pa, run⟩ := h.run
  refine ⟨t, pa, fun ρ st σ g Q rel k => ?_⟩
  refine run ρ st σ g _ (okE X.K ρ σ Q) _ okE.goes rel k fun d1 st1 v1 g1 e1 r1 h1 k1 => ?_
  cases e2 : peekL st1 d1 with
  | bad => simp only [e2] at k1; exact k1.elim
  | exc n s => exact (peekL_exc e2).elim
  | ok ds =>
    simp only [e2] at k1
    exact ho ρ st1 σ g1 ds v1 Q r1 (pkL_of r1.wd h1 e2) k1
theorem ve_callB {x : Str} {p pos : Pos} {e : Expr} {es : List Expr} {id : String} {o : List PyData → R PyData} {fa : FA} (hc : CallV X W (.builtin id) o) (hg : Gl X x) (hm : X.mg x = none) (hv : bootBuiltins x = some (.builtin id)) (ha : VA X W (e :: es) fa) (hn : x ≠ "__name__" := by decide) (hdb : (x == ("__debug__" : Str)) = false := by decide)
    (he : starEach (e :: es) X.env = (false, eval e X.env) :: starEach es X.env := by rfl) (hpl : (backTo pos (starEach es X.env)).any (·.1) = false := by rfl) : VE X W (.Call (.Name x p) (e :: es) [] pos) (vCall o fa) := by
  obtain ⟨r, h1, h2⟩ := hc
  obtain ⟨t, pa, run⟩ := callV_run h2 ha
  exact ⟨_, pe_callB h1 hg hm hv pa hn hdb he hpl, run⟩
theorem ve_callTy {x : Str} {p pos : Pos} {e : Expr} {es : List Expr} {T : String} {o : List PyData → R PyData} {fa : FA} (hc : CallV X W (.type T) o) (hg : Gl X x) (hm : X.mg x = none) (hv : bootBuiltins x = some (.type T)) (ha : VA X W (e :: es) fa) (hn : x ≠ "__name__" := by decide) (hdb : (x == ("__debug__" : Str)) = false := by decide)
    (he : starEach (e :: es) X.env = (false, eval e X.env) :: starEach es X.env := by rfl) (hpl : (backTo pos (starEach es X.env)).any (·.1) = false := by rfl) : VE X W (.Call (.Name x p) (e :: es) [] pos) (vCall o fa) := by
  obtain ⟨r, h1, h2⟩ := hc
  obtain ⟨t, pa, run⟩ := callV_run h2 ha
  exact ⟨_, pe_callTy h1 hg hm hv pa hn hdb he hpl, run⟩
theorem pkL1 {K : PySem.W.Frag} {g : Gh} {d : PyData} {xs : List V} (h : PkL K g [d] xs) : ∃ v, xs = [v] ∧ Pk K g d v := by
  cases h with
  | cons h t => cases t; exact ⟨_, rfl, h⟩
theorem pkL2 {K : PySem.W.Frag} {g : Gh} {d e : PyData} {xs : List V} (h : PkL K g [d, e] xs) : ∃ v u, xs = [v, u] ∧ Pk K g d v ∧ Pk K g e u := by
  cases h with
  | cons h t =>
    cases t with
    | cons h2 t2 => cases t2; exact ⟨_, _, rfl, h, h2⟩
/-- one argument -/
def one (o : PyData → R PyData) : List PyData → R PyData
  | [d] => o d
  | _ => .bad
theorem cv_one {f : Value} {r : List V → Hp → VK → Prop} {o : PyData → R PyData} (h : CallR X f r) (ho : UnV X W (fun v H Q => r [v] H Q) o) : CallV X W f (one o) := by
  refine ⟨r, h, fun ρ st σ g ds vs Q rel hp k => ?_⟩
  match ds, hp, k with
  | [d], hp, k =>
    obtain ⟨v, rfl, h1⟩ := pkL1 hp
    exact ho ρ st σ g d v Q rel h1 k
  | [], hp, k => exact k.elim
  | _ :: _ :: _, hp, k => exact k.elim

/-! ### len, abs, int, bool -/
def lenP : PyData → R PyData
  | .list xs => .ok (.int xs.length)
  | .tuple xs => .ok (.int xs.length)
  | .str x => if x.length ≤ LIM then .ok (.int x.length) else .bad
  | _ => .bad
theorem cv_len : CallV X W (.builtin "len") (one lenP) := by
  refine cv_one (call_len_seq.or call_len_str) fun ρ st σ g x v Q rel hx k => ?_
  cases x with
  | list xs =>
    obtain ⟨a, vs, rfl, s, l⟩ := hx.lst
    refine .inl ⟨a, vs, rfl, .inl s, ?_⟩
    rw [l.1]; exact okP_fin rel (.int _) k
  | tuple xs =>
    obtain ⟨a, vs, rfl, s, l⟩ := Pk.tup rel.wd hx
    refine .inl ⟨a, vs, rfl, .inr s, ?_⟩
    rw [l.1]; exact okP_fin rel (.int _) k
  | str z =>
    simp only [lenP] at k
    split at k
    · rename_i hl
      exact .inr ⟨z, by rw [hx.str], by rw [lim_eq]; exact hl, okP_fin rel (.int _) k⟩
    · exact k.elim
  | _ => exact k.elim
def absP : PyData → R PyData
  | .int i => .ok (.int (if i < 0 then -i else i))
  | _ => .bad
theorem cv_abs : CallV X W (.builtin "abs") (one absP) := by
  refine cv_one call_abs fun ρ st σ g x v Q rel hx k => ?_
  cases x with
  | int i => exact ⟨i, by rw [hx.int], okP_fin rel (.int _) k⟩
  | _ => exact k.elim
def intP1 : PyData → R PyData
  | .int i => .ok (.int i)
  | .bool b => .ok (.int (if b then 1 else 0))
  | _ => .bad
theorem cv_int : CallV X W (.type "int") (one intP1) := by
  refine cv_one call_int1 fun ρ st σ g x v Q rel hx k => ?_
  cases x with
  | int i => exact .inl ⟨i, by rw [hx.int], okP_fin rel (.int _) k⟩
  | bool i => exact .inr ⟨i, by rw [hx.bl], okP_fin rel (.int _) k⟩
  | _ => exact k.elim
def boolP1 : PyData → R PyData
  | .int i => .ok (.bool (i != 0))
  | .bool b => .ok (.bool b)
  | _ => .bad
theorem cv_bool : CallV X W (.type "bool") (one boolP1) := by
  refine cv_one call_bool1 fun ρ st σ g x v Q rel hx k => ?_
  cases x with
  | int i => exact .inl ⟨i, by rw [hx.int], okP_fin rel (.bl _) k⟩
  | bool i => exact .inr ⟨i, by rw [hx.bl], okP_fin rel (.bl _) k⟩
  | _ => exact k.elim

/-! ### tuple(..), list(..) -/
def tupleP : PyData → R PyData
  | .list xs => .ok (.tuple xs)
  | .tuple xs => .ok (.tuple xs)
  | _ => .bad
theorem cv_tuple : CallV X W (.type "tuple") (one tupleP) := by
  refine cv_one call_tuple_of fun ρ st σ g x v Q rel hx k => ?_
  cases x with
  | list xs =>
    obtain ⟨a, vs, rfl, s, l⟩ := hx.lst
    exact ⟨a, vs, rfl, .inl ⟨s, okP_newT rel l k⟩⟩
  | tuple xs =>
    obtain ⟨a, vs, rfl, s, l⟩ := hx.tupF
    exact ⟨a, vs, rfl, .inr ⟨seqT_mono rel.wd.sub (.inl (.inl s)), okP_fin rel (.tup' s l) k⟩⟩
  | _ => exact k.elim
def listP : PyData → R PyData
  | .list xs => .ok (.list xs)
  | .tuple xs => .ok (.list xs)
  | _ => .bad
theorem cv_list : CallV X W (.type "list") (one listP) := by
  refine cv_one call_list_of fun ρ st σ g x v Q rel hx k => ?_
  cases x with
  | list xs =>
    obtain ⟨a, vs, rfl, s, l⟩ := hx.lst
    exact ⟨a, vs, rfl, .inl s, okP_newL rel l k⟩
  | tuple xs =>
    obtain ⟨a, vs, rfl, s, l⟩ := Pk.tup rel.wd hx
    exact ⟨a, vs, rfl, .inr s, okP_newL rel l k⟩
  | _ => exact k.elim

/-! ### isinstance -/
def tyName : PyData → String
  | .none => "NoneType"
  | .bool _ => "bool"
  | .int _ => "int"
  | .str _ => "str"
  | .list _ => "list"
  | .tuple _ => "tuple"
  | .dict _ => "dict"
theorem Pk.tyX {K : PySem.W.Frag} {st : Store} {g : Gh} (w : Wd K st g) {d : PyData} {v : V} (h : Pk K g d v) (hd : ∀ l, d ≠ .dict l) : TyX K g.H v (.type (tyName d)) := by
  cases d with
  | none => rw [Has.non_inv h]; exact .base .non
  | bool b => rw [Has.bl_inv h]; exact .base (.bl b)
  | int b => rw [Has.int_inv h]; exact .base (.int b)
  | str b => rw [Has.str_inv h]; exact .base (.str b)
  | list xs =>
    obtain ⟨a, vs, rfl, s, l⟩ := h
    rcases s with (s | ⟨o, s⟩) | ⟨o, its, n, hk, hc, _⟩
    · exact .base (.lst s)
    · exact .base (.frz s)
    · exact .kList hk hc
  | tuple xs =>
    obtain ⟨a, vs, rfl, s, l⟩ := Pk.tup w h
    rcases s with (s | ⟨o, s⟩) | ⟨o, its, n, hk, hc, _⟩
    · exact .base (.tup s)
    · exact .fTuple s
    · exact .kTuple hk hc
  | dict l => exact (hd l rfl).elim
def tyLe (a b : String) : Bool := a == b || (a == "bool" && b == "int")
def isDict : PyData → Bool
  | .dict _ => true
  | _ => false
def isiP (T : String) (d : PyData) : R PyData := if isDict d = true then .bad else .ok (.bool (tyLe (tyName d) T))
theorem ve_isi {T : String} {n : Str} {e : Expr} {f : FE} {p pn pos : Pos} (h : VE X W e f) (hk : ∀ t ∈ ["NoneType", "bool", "int", "str", "list", "tuple"], kitB t T = some (tyLe t T))
    (hg : Gl X "isinstance") (hm : X.mg "isinstance" = none) (hv : bootBuiltins "isinstance" = some (.builtin "isinstance")) (hgn : Gl X n) (hmn : X.mg n = none) (hvn : bootBuiltins n = some (.type T)) (hn : n ≠ "__name__" := by decide) (hdb : (n == ("__debug__" : Str)) = false := by decide)
    (he : starEach [e, .Name n pn] X.env = (false, eval e X.env) :: starEach [.Name n pn] X.env := by rfl) (hpl : (backTo pos (starEach [.Name n pn] X.env)).any (·.1) = false := by rfl) :
    VE X W (.Call (.Name "isinstance" p) [e, .Name n pn] [] pos) (vUn (isiP T) f) := by
  have pn' : PE X (.Name n pn) (tC (.ty T)) := pe_bltn hgn hmn hvn (show RelV (.ty T) (.type T) from rfl) hn hdb
  have ho : UnV X W (fun v H Q => rIsi X.K [v, .ty T] H Q) (isiP T) := fun ρ st σ g x v Q rel hx k => by
    simp only [isiP] at k
    split at k
    · exact k.elim
    · rename_i hd
      refine ⟨v, .ty T, .type (tyName x), .type T, tyLe (tyName x) T, rfl, .ty T, hx.tyX rel.wd (fun l e => hd (by rw [e]; rfl)), kit_ty (hk _ ?_), okP_fin rel (.bl _) k⟩
      cases x <;> simp [tyName, isDict] at hd ⊢
  obtain ⟨t, pe, run⟩ := un_run ho h
  exact ⟨_, pe_callB call_isi hg hm hv (pa_cons (hs := he) pe (pa_cons pn' pa_nil)) (by decide) (by decide) he hpl, run⟩
theorem kit_int : ∀ t ∈ ["NoneType", "bool", "int", "str", "list", "tuple"], kitB t "int" = some (tyLe t "int") := by decide +kernel
theorem kit_bool : ∀ t ∈ ["NoneType", "bool", "int", "str", "list", "tuple"], kitB t "bool" = some (tyLe t "bool") := by decide +kernel
theorem kit_str : ∀ t ∈ ["NoneType", "bool", "int", "str", "list", "tuple"], kitB t "str" = some (tyLe t "str") := by decide +kernel
theorem kit_list : ∀ t ∈ ["NoneType", "bool", "int", "str", "list", "tuple"], kitB t "list" = some (tyLe t "list") := by decide +kernel
theorem kit_tuple : ∀ t ∈ ["NoneType", "bool", "int", "str", "list", "tuple"], kitB t "tuple" = some (tyLe t "tuple") := by decide +kernel
theorem kit_dict : ∀ t ∈ ["NoneType", "bool", "int", "str", "list", "tuple"], kitB t "dict" = some (tyLe t "dict") := by decide +kernel

/-! ### sum, min, max, sorted of a list or a tuple -/
/-- a list or a tuple that is read -/
def SqB (K : PySem.W.Frag) (H : Hp) (a : Addr) (xs : List V) : Prop := SqL K H a xs ∨ SqT K H a xs
theorem Pk.sq {K : PySem.W.Frag} {st : Store} {g : Gh} (w : Wd K st g) {d : PyData} {ds : List PyData} {v : V} (h : Pk K g d v) (e : itemsOf d = some ds) : ∃ a xs, v = .ref a ∧ SqB K g.H a xs ∧ HasL K g.F ds xs := by
  cases d with
  | list xs =>
    cases e
    obtain ⟨a, vs, rfl, s, l⟩ := h.lst
    exact ⟨a, vs, rfl, .inl s, l⟩
  | tuple xs =>
    cases e
    obtain ⟨a, vs, rfl, s, l⟩ := Pk.tup w h
    exact ⟨a, vs, rfl, .inr s, l⟩
  | _ => cases e
theorem iter_any {prog : Program} {w : World} {A : Around} {E : Value → Shared → Prop} {s : Shared} {l : Addr} {vs : Array Value} {Q : Value → Shared → Prop} (hh : A.handled = none) (hl : s.heap.IsList l vs ∨ s.heap.IsTuple l vs)
    (h : ∀ (s₂ : Shared) (St : Nat → Shared → Prop) (o : Obj), s₂ = { s with heap := s.heap.push o } →
      WalksS prog w A s.heap.objs.size [s.heap.objs.size, l] [s.heap.objs.size] (fun a b => b = a) vs.size (fun i v => vs[i]? = some v) St →
      St 0 s₂ → (∀ b ∈ [s.heap.objs.size, l], b < s₂.heap.objs.size) → (∀ b o, s.heap.get? b = some o → b ∉ [s.heap.objs.size]) → (∀ b o, s.heap.get? b = some o → s₂.heap.get? b = some o) → Q (.ref s.heap.objs.size) s₂) :
    wpAny (model prog w) A (pyIter (.ref l)) Q E s := by
  rcases hl with hl | hl
  · exact iter_listW hh hl fun s₂ e W st h1 h2 h3 => h s₂ _ _ e W st h1 h2 h3
  · exact iter_tupleW hh hl fun s₂ e W st h1 h2 h3 => h s₂ _ _ e W st h1 h2 h3
theorem SqB.at {pins : List (Addr × Obj)} {σ : L2.St} {H : Hp} {s : Shared} {a : Addr} {xs : List V} (I : Inv X pins σ H s) (h : SqB X.K H a xs) : ∃ its : List Value, Vals xs its ∧ (s.heap.IsList a its.toArray ∨ s.heap.IsTuple a its.toArray) ∧ xs.length ≤ sizeLine := by
  rcases h with h | h
  · obtain ⟨its, r, p, z⟩ := I.list h
    exact ⟨its, r, .inl p.isList, z⟩
  · obtain ⟨its, r, p, z⟩ := I.tuple h
    exact ⟨its, r, .inr p, z⟩
theorem at_getD {its : List Value} {ns : List Int} (h : IntsAre its ns) : ∀ (i : Nat) (v : Value), its.toArray[i]? = some v → ∃ t, v = .int (ns.getD i 0) t := by
  intro i v hv
  replace hv : its[i]? = some v := by simpa using hv
  induction h generalizing i with
  | nil => simp at hv
  | cons n t _ ih =>
    cases i with
    | zero => simp at hv; subst hv; exact ⟨t, by simp⟩
    | succ i => simpa using ih i (by simpa using hv)
theorem preSum_getD : ∀ (ns : List Int), preSum (fun i => ns.getD i 0) ns.length = ns.sum := by
  intro ns
  have key : ∀ (n : Nat), n ≤ ns.length → preSum (fun i => ns.getD i 0) n = (ns.take n).sum := by
    intro n
    induction n with
    | zero => intro _; simp [preSum]
    | succ n ih =>
      intro hn
      have h1 : ns[n]? = some ns[n] := List.getElem?_eq_getElem (by omega)
      rw [L2.sum_take h1]
      simp only [preSum]
      rw [ih (by omega), List.getD_eq_getElem?_getD, h1]
      rfl
  rw [key ns.length (Nat.le_refl _), List.take_length]
/-- sum of ints -/
def rSumB (K : PySem.W.Frag) : List V → Hp → VK → Prop := fun vs H Q => ∃ (a : Addr) (ns : List Int), vs = [V.ref a] ∧ SqB K H a (ns.map V.int) ∧ Q (.int ns.sum) H
theorem cr_sumB (hc : X.calm = true) : CallR X (.builtin "sum") (rSumB X.K) := by
  intro pins s σ H vs us Q I r h
  obtain ⟨a, ns, rfl, hs, q⟩ := h
  obtain ⟨its, rv, hl, _⟩ := hs.at I
  rw [Vals.ref1 r]
  have hi := rv.ints
  refine call_sum_walkAnyS (iter_any (A := X.A.in1) (I.ok.hd hc) hl fun s₂ St o e W st h1 h2 h3 => ?_)
  refine ⟨_, _, _, _, _, _, St, fun i => ns.getD i 0, rfl, W, st, h1, at_getD hi, fun s' t' m => ?_⟩
  obtain ⟨h', tk, rfl, hk⟩ := moved_old e rfl m
  refine ⟨.int ns.sum, H, I.kept hk, ⟨t', ?_⟩, q⟩
  have el : its.toArray.size = ns.length := by rw [List.size_toArray]; exact hi.length
  rw [el, preSum_getD]
/-- all are ints -/
def asInts : List PyData → Option (List Int)
  | [] => some []
  | .int i :: r => (asInts r).map (i :: ·)
  | _ :: _ => none
theorem asInts_map (ns : List Int) : asInts (ns.map .int) = some ns := by
  induction ns with
  | nil => rfl
  | cons n r ih => simp [asInts, ih]
theorem asInts_some : ∀ {ds : List PyData} {ns : List Int}, asInts ds = some ns → ds = ns.map .int
  | [], ns, h => by cases h; rfl
  | .int i :: r, ns, h => by
    simp only [asInts] at h
    cases e : asInts r with
    | none => rw [e] at h; cases h
    | some m => rw [e] at h; cases h; rw [asInts_some e]; rfl
  | .none :: _, _, h => by cases h
  | .bool _ :: _, _, h => by cases h
  | .str _ :: _, _, h => by cases h
  | .list _ :: _, _, h => by cases h
  | .tuple _ :: _, _, h => by cases h
  | .dict _ :: _, _, h => by cases h
theorem hasL_ints {K : PySem.W.Frag} {F : Hp} : ∀ {ns : List Int} {xs : List V}, HasL K F (ns.map .int) xs → xs = ns.map V.int
  | [], xs, h => h.nil_inv
  | n :: r, xs, h => by
    obtain ⟨v, r', rfl, h1, h2⟩ := HasL.uncons h
    rw [h1.int_inv, hasL_ints h2]; rfl
theorem hasL_of_ints {K : PySem.W.Frag} {F : Hp} : ∀ (ns : List Int), HasL K F (ns.map .int) (ns.map V.int)
  | [] => .nil
  | n :: r => .cons (.int n) (hasL_of_ints r)
def sumP (d : PyData) : R PyData := match (itemsOf d).bind asInts with
  | some ns => .ok (.int ns.sum)
  | none => .bad
theorem cv_sum (hc : X.calm = true) : CallV X W (.builtin "sum") (one sumP) := by
  refine cv_one (cr_sumB hc) fun ρ st σ g x v Q rel hx k => ?_
  unfold sumP at k
  cases e1 : itemsOf x with
  | none => rw [e1] at k; exact k.elim
  | some ds =>
    cases e2 : asInts ds with
    | none => rw [e1, Option.bind_some, e2] at k; exact k.elim
    | some ns =>
      rw [e1, Option.bind_some, e2] at k
      obtain ⟨a, xs, rfl, s, l⟩ := hx.sq rel.wd e1
      rw [asInts_some e2] at l
      have ex := hasL_ints l
      subst ex
      exact ⟨a, ns, rfl, s, okP_fin rel (.int _) k⟩

theorem alike_bool (xs : List PyData) : (∀ x ∈ xs, ∀ y ∈ xs, PySem.W.alike x y = true) ↔ (xs.all fun x => xs.all fun y => PySem.W.alike x y) = true := by
  simp only [List.all_eq_true]
theorem readsAll_of {pins : List (Addr × Obj)} {σ : L2.St} {st : Store} {g : Gh} {s : Shared} {ds : List PyData} {xs : List V} {its : List Value} (I : Inv X pins σ g.H s) (w : Same g.F g.H) (h : HasL X.K g.F ds xs) (hc : PyData.canLayAll0 ds = true) (r : Vals xs its) : ∃ as, ReadsAll s.heap its ds as :=
  Dp.readsAll I ds xs its ((h.mono w).dpAll hc) r
/-- the least or greatest item -/
def MmOk (ds : List PyData) : Prop := (ds.all SeqAt.shaped && (ds.all fun x => ds.all fun y => PySem.W.alike x y) && ds.all fun x => !isNone x) = true
instance (ds : List PyData) : Decidable (MmOk ds) := by unfold MmOk; infer_instance
theorem MmOk.all {ds : List PyData} (h : MmOk ds) : (∀ x ∈ ds, SeqAt.shaped x = true) ∧ AlikeAll ds := by
  unfold MmOk at h
  simp only [Bool.and_eq_true, List.all_eq_true, Bool.not_eq_true'] at h
  refine ⟨h.1.1, h.1.2, fun x hx e => ?_⟩
  have := h.2 x hx
  rw [e] at this
  simp [isNone] at this
theorem canLayAll_of : ∀ {ds : List PyData}, (∀ x ∈ ds, SeqAt.shaped x = true) → PyData.canLayAll0 ds = true
  | [], _ => by simp [PyData.canLayAll0]
  | d :: ds, h => by
    simp only [PyData.canLayAll0, Bool.and_eq_true]
    exact ⟨canLay_shaped (h d List.mem_cons_self), canLayAll_of fun x hx => h x (List.mem_cons_of_mem _ hx)⟩
theorem depthAll_of : ∀ {ds : List PyData}, (∀ x ∈ ds, SeqAt.shaped x = true) → PyData.depthAll ds ≤ 64
  | [], _ => by simp [PyData.depthAll]
  | d :: ds, h => by
    simp only [PyData.depthAll]
    have h1 := depth_shaped (h d List.mem_cons_self)
    have h2 := depthAll_of fun x hx => h x (List.mem_cons_of_mem _ hx)
    omega
def rMmB (K : PySem.W.Frag) (f : PyData → List PyData → PyData) : List V → Hp → VK → Prop := fun vs H Q => ∃ (a : Addr) (F : Hp) (x : PyData) (ds : List PyData) (xs : List V), vs = [V.ref a] ∧ Same F H ∧ SqB K H a xs ∧ HasL K F (x :: ds) xs ∧ MmOk (x :: ds) ∧
  ∀ v, Has K F (f x ds) v → Q v H
theorem mm_fin {pins : List (Addr × Obj)} {σ : L2.St} {H F : Hp} {s : Shared} {Q : VK} {ds : List PyData} {xs : List V} {its : List Value} {m : PyData} {i : Nat} {v : Value} {h' : Heap} {tk : Nat} {bs : List Addr} (I : Inv X pins σ H s) (hF : Same F H) (hl : HasL X.K F ds xs) (rv : Vals xs its) (ho : MmOk ds)
    (hv : its.toArray[i]? = some v) (r : Reads h' v m bs) (hm : m ∈ ds) (hk : ∀ b o, s.heap.get? b = some o → h'.get? b = some o) (q : ∀ v, Has X.K F m v → Q v H) : EP X pins σ Q v { s with heap := h', toks := tk } := by
  have hv : its[i]? = some v := by simpa using hv
  have I' : Inv X pins σ H { s with heap := h', toks := tk } := I.kept hk
  obtain ⟨hi, _⟩ := List.getElem?_eq_some_iff.mp hv
  have hx : i < xs.length := by rw [rv.length]; exact hi
  obtain ⟨u, hu, ru⟩ := rv.get (i := i) (List.getElem?_eq_getElem hx)
  rw [hv] at hu
  cases hu
  obtain ⟨d, hd, hh⟩ := hl.getV (List.getElem?_eq_getElem hx)
  have hmem := List.mem_of_getElem? hd
  obtain ⟨as, r2⟩ := Dp.reads I' d xs[i] v ((hh.mono hF).dp (canLay_shaped (ho.all.1 d hmem))) ru
  have e : d = m := PySem.W.alike_unique d m v as bs (ho.all.2.1 d hmem m hm) r2 r
  rw [e] at hh
  exact ⟨xs[i], H, I', ru, q _ hh⟩
theorem minD_mem (x : PyData) (xs : List PyData) : minD x xs ∈ x :: xs := by
  unfold minD
  have key : ∀ (l : List PyData) (a : PyData), l.foldl (fun a y => if PySem.W.dataLt y a then y else a) a ∈ a :: l := by
    intro l
    induction l with
    | nil => intro a; simp
    | cons y l ih =>
      intro a
      rw [List.foldl_cons]
      have := ih (if PySem.W.dataLt y a then y else a)
      rcases List.mem_cons.mp this with e | e
      · rw [e]
        split
        · exact List.mem_cons_of_mem _ List.mem_cons_self
        · exact List.mem_cons_self
      · exact List.mem_cons_of_mem _ (List.mem_cons_of_mem _ e)
  exact key xs x
theorem maxD_mem (x : PyData) (xs : List PyData) : maxD x xs ∈ x :: xs := by
  unfold maxD
  have key : ∀ (l : List PyData) (a : PyData), l.foldl (fun a y => if PySem.W.dataLt a y then y else a) a ∈ a :: l := by
    intro l
    induction l with
    | nil => intro a; simp
    | cons y l ih =>
      intro a
      rw [List.foldl_cons]
      have := ih (if PySem.W.dataLt a y then y else a)
      rcases List.mem_cons.mp this with e | e
      · rw [e]
        split
        · exact List.mem_cons_of_mem _ List.mem_cons_self
        · exact List.mem_cons_self
      · exact List.mem_cons_of_mem _ (List.mem_cons_of_mem _ e)
  exact key xs x
theorem cr_minB (hc : X.calm = true) (hu : X.A.units + 65 < cLine) : CallR X (.builtin "min") (rMmB X.K minD) := by
  intro pins s σ H vs us Q I r h
  obtain ⟨a, F, x, ds, xs, rfl, hF, hs, hl, ho, q⟩ := h
  obtain ⟨its, rv, hla, _⟩ := hs.at I
  rw [Vals.ref1 r]
  obtain ⟨as, ra⟩ := Dp.readsAll I (x :: ds) xs its ((hl.mono hF).dpAll (canLayAll_of ho.all.1)) rv
  have hd := depthAll_of ho.all.1
  rcases hla with hla | hla
  · exact min_list_data (I.ok.hd hc) hla ra ho.all.2 (by omega) fun i v h' tk bs hv rr hk => mm_fin I hF hl rv ho hv rr (minD_mem x ds) hk q
  · exact min_tuple_data (I.ok.hd hc) hla ra ho.all.2 (by omega) fun i v h' tk bs hv rr hk => mm_fin I hF hl rv ho hv rr (minD_mem x ds) hk q
theorem cr_maxB (hc : X.calm = true) (hu : X.A.units + 65 < cLine) : CallR X (.builtin "max") (rMmB X.K maxD) := by
  intro pins s σ H vs us Q I r h
  obtain ⟨a, F, x, ds, xs, rfl, hF, hs, hl, ho, q⟩ := h
  obtain ⟨its, rv, hla, _⟩ := hs.at I
  rw [Vals.ref1 r]
  obtain ⟨as, ra⟩ := Dp.readsAll I (x :: ds) xs its ((hl.mono hF).dpAll (canLayAll_of ho.all.1)) rv
  have hd := depthAll_of ho.all.1
  rcases hla with hla | hla
  · exact max_list_data (I.ok.hd hc) hla ra ho.all.2 (by omega) fun i v h' tk bs hv rr hk => mm_fin I hF hl rv ho hv rr (maxD_mem x ds) hk q
  · exact max_tuple_data (I.ok.hd hc) hla ra ho.all.2 (by omega) fun i v h' tk bs hv rr hk => mm_fin I hF hl rv ho hv rr (maxD_mem x ds) hk q
def mmP (f : PyData → List PyData → PyData) (h : Int → Int → Int) : List PyData → R PyData
  | [.int i, .int j] => .ok (.int (h i j))
  | [d] => match itemsOf d with
    | some (x :: ds) => if MmOk (x :: ds) then .ok (f x ds) else .bad
    | _ => .bad
  | _ => .bad
theorem cv_mm {id : String} {f : PyData → List PyData → PyData} {h : Int → Int → Int} (h2 : CallR X (.builtin id) (fun xs H Q => ∃ i j, xs = [.int i, .int j] ∧ Q (.int (h i j)) H)) (h1 : CallR X (.builtin id) (rMmB X.K f)) : CallV X W (.builtin id) (mmP f h) := by
  refine ⟨_, h2.or h1, fun ρ st σ g ds vs Q rel hp k => ?_⟩
  unfold mmP at k
  split at k
  · obtain ⟨v, u, rfl, a, b⟩ := pkL2 hp
    exact .inl ⟨_, _, by rw [a.int, b.int], okP_fin rel (.int _) k⟩
  · rename_i d
    split at k
    · rename_i x ds e
      split at k
      · rename_i ho
        obtain ⟨v, rfl, hx⟩ := pkL1 hp
        obtain ⟨a, xs, rfl, s, l⟩ := hx.sq rel.wd e
        exact .inr ⟨a, g.F, x, ds, xs, rfl, rel.wd.sub, s, l, ho, fun v hv => okP_fin rel hv k⟩
      · exact k.elim
    · exact k.elim
  · exact k.elim
abbrev minP := mmP minD fun i j => if j < i then j else i
abbrev maxP := mmP maxD fun i j => if j > i then j else i
theorem cv_min (hc : X.calm = true) (hu : X.A.units + 65 < cLine) : CallV X W (.builtin "min") minP := cv_mm (call_min2 hc) (cr_minB hc hu)
theorem cv_max (hc : X.calm = true) (hu : X.A.units + 65 < cLine) : CallV X W (.builtin "max") maxP := cv_mm (call_max2 hc) (cr_maxB hc hu)
end
end VL

namespace VL
open PySem PySem.Spec PyProof.Rows L2
section
variable {X : Cx} {W : Wish}

/-! ### new objects: frozen at once, or owned -/
def NewAt (K : PySem.W.Frag) (F : Hp) : Ob → HO → Prop
  | .lst ds, o => ∃ xs, o = .lst xs ∧ HasL K F ds xs
  | .dct t ds, o => DctAt K F ds (some o) t
  | .fz _, _ => False
abbrev FN := Slots → Store → R (Ob × Store)
def okN (K : PySem.W.Frag) (ρ : Slots) (σ : L2.St) (Q : VK) (g : Gh) (a : Ob × Store) : Prop :=
  ∀ p o g', Ext g g' → Rel K ρ a.2 σ g' → g.H p = none → g'.H p = some o → g'.F p = none → p ∉ g'.A → NewAt K g'.F a.1 o → Q (.ref p) g'.H
abbrev RN (K : PySem.W.Frag) (W : Wish) (t : TE) (f : FN) : Prop := ∀ ρ st σ g Q, Rel K ρ st σ g → KR (WN K W ρ σ g) (okN K ρ σ Q g) (f ρ st) → t σ g.H Q
abbrev RE (K : PySem.W.Frag) (W : Wish) (t : TE) (f : FE) : Prop := ∀ ρ st σ g Q, Rel K ρ st σ g → KE K W ρ σ g Q (f ρ st) → t σ g.H Q
def VN (X : Cx) (W : Wish) (e : Expr) (f : FN) : Prop :=
  ∃ t, PE X e t ∧ ∀ ρ st σ g Q, Rel X.K ρ st σ g → KR (WN X.K W ρ σ g) (okN X.K ρ σ Q g) (f ρ st) → t σ g.H Q
/-- laid, neither frozen nor owned -/
abbrev Gh.raw (g : Gh) (p : Addr) (o : HO) : Gh := ⟨g.F, g.A, upd g.H p o⟩
theorem ext_raw {g : Gh} {p : Addr} {o : HO} (h : g.H p = none) : Ext g (g.raw p o) :=
  ⟨Same.refl _, ⟨[], by simp, fun a z => by simp at z⟩, fun b x e _ => by
    show upd g.H p o b = some x
    rw [upd_ne (ne_of_none e h)]; exact e, fun b e => by
    have e : upd g.H p o b = none := e
    by_cases hb : b = p
    · rw [hb]; exact h
    · rw [upd_ne hb] at e; exact e, fun _ _ _ _ hf => hf⟩
theorem wd_raw {K : PySem.W.Frag} {st : Store} {g : Gh} (w : Wd K st g) {p : Addr} {o : HO} (h : g.H p = none) : Wd K st (g.raw p o) := by
  refine ⟨fun b x q => ?_, w.nd, w.len, fun a ha => ?_, fun k a ob h1 h2 => ?_⟩
  · show upd g.H p o b = some x
    have := w.sub b x q
    rw [upd_ne (ne_of_none this h)]; exact this
  · obtain ⟨x, hx⟩ := w.there a ha
    refine ⟨x, ?_⟩
    show upd g.H p o a = some x
    rw [upd_ne (ne_of_none hx h)]; exact hx
  · obtain ⟨x, hx⟩ := w.there a (List.mem_of_getElem? h1)
    exact ObAt.ext (g := g) (g' := g.raw p o) (Same.refl _) id (by show upd g.H p o a = g.H a; rw [upd_ne (ne_of_none hx h)]) (w.own k a ob h1 h2)
theorem okN_new {ρ : Slots} {st : Store} {σ : L2.St} {g : Gh} {Q : VK} {ob : Ob} (rel : Rel X.K ρ st σ g) (k : okN X.K ρ σ Q g (ob, st)) {p : Addr} {o : HO} (hp : g.H p = none) (hn : NewAt X.K g.F ob o) : Q (.ref p) (upd g.H p o) :=
  k p o (g.raw p o) (ext_raw hp) ⟨wd_raw rel.wd hp, rel.sl.ext (ext_raw hp)⟩ hp upd_same (rel.wd.fnone hp) (fun hm => by
    obtain ⟨x, hx⟩ := rel.wd.there p hm
    rw [hp] at hx; cases hx) hn
def obP : Ob → PyData
  | .lst ds => .list ds
  | .dct _ ds => .dict ds
  | .fz d => d
def vFz (f : FN) : FE := fun ρ st => f ρ st >>= fun a => .ok (.p (obP a.1), a.2)
def vOwn (f : FN) : FE := fun ρ st => f ρ st >>= fun a => .ok (.loc a.2.length, a.2 ++ [a.1])
theorem has_ob {K : PySem.W.Frag} {F : Hp} {ob : Ob} {o : HO} {p : Addr} (h : NewAt K F ob o) (hp : F p = some o) : Has K F (obP ob) (.ref p) := by
  cases ob with
  | lst ds =>
    obtain ⟨xs, rfl, l⟩ := h
    exact .lst' (.inl (.inl hp)) l
  | dct t ds => exact has_dct h (.inl hp)
  | fz d => exact h.elim
theorem NewAt.mono {K : PySem.W.Frag} {F F' : Hp} (e : Same F F') {ob : Ob} {o : HO} (h : NewAt K F ob o) : NewAt K F' ob o := by
  cases ob with
  | lst ds =>
    obtain ⟨xs, q, l⟩ := h
    exact ⟨xs, q, l.mono e⟩
  | dct t ds => exact DctAt.mono e h
  | fz d => exact h
theorem RN.fz {K : PySem.W.Frag} {t : TE} {f : FN} (run : RN K W t f) : RE K W t (vFz f) := by
  intro ρ st σ g Q rel k
  refine run ρ st σ g Q rel ?_
  refine KR.mono (KR.bind k) (fun a ha p o g' e r' hp hH hF hA hn => ?_) fun n s hn => hn
  have sm : Same g'.F (upd g'.F p o) := same_upd hF
  have ex : Ext g ⟨upd g'.F p o, g'.A, g'.H⟩ := ⟨e.frz.trans sm, e.new, e.keep, e.there, fun b x q hb hf => by
    show upd g'.F p o b = none
    rw [upd_ne (ne_of_none q hp)]; exact e.raw b x q hb hf⟩
  refine ha (.ref p) ⟨upd g'.F p o, g'.A, g'.H⟩ ex ⟨⟨fun b x q => ?_, r'.wd.nd, r'.wd.len, r'.wd.there, fun j b ob hj hb => ?_⟩, Sl.mono (g := g') (g' := ⟨upd g'.F p o, g'.A, g'.H⟩) sm (List.prefix_refl _) r'.sl⟩ ?_
  · have q : upd g'.F p o b = some x := q
    by_cases hb : b = p
    · rw [hb, upd_same] at q; cases q; rw [hb]; exact hH
    · rw [upd_ne hb] at q; exact r'.wd.sub b x q
  · have hbp : b ≠ p := fun z => hA (z ▸ List.mem_of_getElem? hj)
    refine (r'.wd.own j b ob hj hb).ext sm (fun z => ?_) rfl
    show upd g'.F p o b = none
    rw [upd_ne hbp]; exact z
  · exact has_ob (hn.mono sm) upd_same
theorem ve_fz {e : Expr} {f : FN} (h : VN X W e f) : VE X W e (vFz f) := let ⟨t, pe, run⟩ := h; ⟨t, pe, RN.fz run⟩
theorem obAt_new {K : PySem.W.Frag} {g : Gh} {p : Addr} {o : HO} {ob : Ob} (hn : NewAt K g.F ob o) (hF : g.F p = none) (hH : g.H p = some o) : ObAt K g p ob := by
  cases ob with
  | lst ds =>
    obtain ⟨xs, rfl, l⟩ := hn
    exact ⟨hF, xs, hH, l⟩
  | dct t ds => exact ⟨hF, by rw [hH]; exact hn⟩
  | fz d => exact hn.elim
theorem RN.own {K : PySem.W.Frag} {t : TE} {f : FN} (run : RN K W t f) : RE K W t (vOwn f) := by
  intro ρ st σ g Q rel k
  refine run ρ st σ g Q rel ?_
  refine KR.mono (KR.bind k) (fun a ha p o g' e r' hp hH hF hA hn => ?_) fun n s hn => hn
  obtain ⟨B, hB, nB⟩ := e.new
  have ex : Ext g ⟨g'.F, g'.A ++ [p], g'.H⟩ := ⟨e.frz, ⟨B ++ [p], by show g'.A ++ [p] = _; rw [hB, List.append_assoc], fun b hb => by
    rcases List.mem_append.mp hb with hb | hb
    · exact nB b hb
    · rw [List.mem_singleton.mp hb]; exact hp⟩, e.keep, e.there, e.raw⟩
  have gl : ∀ {k : Nat} {b : Addr}, g'.A[k]? = some b → (g'.A ++ [p])[k]? = some b := fun {k b} hk => by
    rw [List.getElem?_append_left (List.getElem?_eq_some_iff.mp hk).1]; exact hk
  refine ha (.ref p) ⟨g'.F, g'.A ++ [p], g'.H⟩ ex ⟨⟨r'.wd.sub, ?_, ?_, ?_, fun j b ob hj hb => ?_⟩, ?_⟩ ⟨p, ?_, rfl⟩
  · exact List.nodup_append.mpr ⟨r'.wd.nd, by simp, fun x hx y hy => by rw [List.mem_singleton.mp hy]; exact fun z => hA (z ▸ hx)⟩
  · simp [r'.wd.len]
  · intro b hb
    rcases List.mem_append.mp hb with hb | hb
    · exact r'.wd.there b hb
    · rw [List.mem_singleton.mp hb]; exact ⟨o, hH⟩
  · by_cases hjl : j < g'.A.length
    · rw [List.getElem?_append_left hjl] at hj
      rw [List.getElem?_append_left (by rw [← r'.wd.len]; exact hjl)] at hb
      exact r'.wd.own j b ob hj hb
    · rw [List.getElem?_append_right (by omega)] at hj
      rw [List.getElem?_append_right (by rw [← r'.wd.len]; omega), ← r'.wd.len] at hb
      have hj0 : j - g'.A.length = 0 := by
        have := (List.getElem?_eq_some_iff.mp hj).1
        simp at this; omega
      rw [hj0] at hj hb
      cases hj; cases hb
      exact obAt_new hn hF hH
  · refine ⟨r'.sl.1, fun i d hi => ?_⟩
    obtain ⟨v, h1, h2⟩ := r'.sl.2 i d hi
    refine ⟨v, h1, ?_⟩
    cases d with
    | p d => exact h2
    | loc k =>
      obtain ⟨b, q1, q2⟩ := h2
      exact ⟨b, gl q1, q2⟩
  · show (g'.A ++ [p])[a.2.length]? = some p
    rw [List.getElem?_append_right (by rw [r'.wd.len]; exact Nat.le_refl _), r'.wd.len, Nat.sub_self]; rfl
theorem ve_own {e : Expr} {f : FN} (h : VN X W e f) : VE X W e (vOwn f) := let ⟨t, pe, run⟩ := h; ⟨t, pe, RN.own run⟩
def nLst (f : FA) : FN := fun ρ st => fzA f ρ st >>= fun a => if a.1.length ≤ LIM then .ok (.lst a.1, a.2) else .bad
theorem okN.goes {K : PySem.W.Frag} {ρ : Slots} {σ : L2.St} {Q : VK} : Goes (okN K ρ σ Q) := fun g g' b e h p o g2 e2 r hp => h p o g2 (e.trans e2) r (e.there p hp)
theorem vn_lst {es : List Expr} {f : FA} {pos} (h : VA X W es f) : VN X W (.List es pos) (nLst f) := by
  obtain ⟨t, pa, run⟩ := h.fz
  refine ⟨_, pe_lst pa, fun ρ st σ g Q rel k => ?_⟩
  refine run ρ st σ g _ (okN X.K ρ σ Q) _ okN.goes rel k fun ds st1 vs g1 e1 r1 h1 k1 => ?_
  split at k1
  · rename_i hl
    exact ⟨by rw [lim_eq, h1.1]; exact hl, fun p hp => okN_new r1 k1 hp ⟨vs, rfl, h1⟩⟩
  · exact k1.elim
def nListOf (f : FE) : FN := fun ρ st => f ρ st >>= fun a => peek a.2 a.1 >>= fun d => optR (itemsOf d) >>= fun ds => .ok (.lst ds, a.2)
theorem vn_listOf {x : Str} {p pos : Pos} {e : Expr} {f : FE} (hg : Gl X x) (hm : X.mg x = none) (hv : bootBuiltins x = some (.type "list")) (h : VE X W e f) (hn : x ≠ "__name__" := by decide) (hdb : (x == ("__debug__" : Str)) = false := by decide)
    (he : starEach [e] X.env = (false, eval e X.env) :: starEach [] X.env := by rfl) (hpl : (backTo pos (starEach [] X.env)).any (·.1) = false := by rfl) :
    VN X W (.Call (.Name x p) [e] [] pos) (nListOf f) := by
  obtain ⟨t, pe, run⟩ := h.run
  refine ⟨_, pe_callTy call_list_of hg hm hv (pa_cons (hs := he) pe pa_nil) hn hdb he hpl, fun ρ st σ g Q rel k => ?_⟩
  refine run ρ st σ g _ (okN X.K ρ σ Q) _ okN.goes rel k fun d1 st1 v1 g1 e1 r1 h1 k1 => ?_
  obtain ⟨x, px, k2⟩ := peek_bind k1
  cases ei : itemsOf x with
  | none => rw [ei] at k2; exact k2.elim
  | some ds =>
    rw [ei] at k2
    obtain ⟨a, xs, rfl, s, l⟩ := (pk_of r1.wd h1 px).sq r1.wd ei
    exact ⟨a, xs, rfl, s, fun q hq => okN_new r1 k2 hq ⟨xs, rfl, l⟩⟩

/-! ### statements -/
inductive Out where
  | nx | rt (d : Vd) | bk | ct | ex (n : Str)
abbrev RS := R (Out × Slots × Store)
abbrev FS := Slots → Store → RS
def okS (K : PySem.W.Frag) (W : Wish) (D : Ends) (g : Gh) (a : Out × Slots × Store) : Prop := match a.1 with
  | .nx => ∀ σ' g', Ext g g' → Rel K a.2.1 a.2.2 σ' g' → D.nx σ' g'.H
  | .rt d => ∀ v σ' g', Ext g g' → Rel K a.2.1 a.2.2 σ' g' → HasV K g' d v → D.rt v g'.H
  | .bk => ∀ σ' g', Ext g g' → Rel K a.2.1 a.2.2 σ' g' → D.bk σ' g'.H
  | .ct => ∀ σ' g', Ext g g' → Rel K a.2.1 a.2.2 σ' g' → D.ct σ' g'.H
  | .ex n => ∀ σ' g', Ext g g' → Rel K a.2.1 a.2.2 σ' g' → W n σ' g'.H
theorem okS.goes {K : PySem.W.Frag} {W : Wish} {D : Ends} : Goes (okS K W D) := fun g g' b e h => by
  obtain ⟨o, ρ, st⟩ := b
  cases o with
  | nx => exact fun σ' g2 e2 => h σ' g2 (e.trans e2)
  | rt d => exact fun v σ' g2 e2 => h v σ' g2 (e.trans e2)
  | bk => exact fun σ' g2 e2 => h σ' g2 (e.trans e2)
  | ct => exact fun σ' g2 e2 => h σ' g2 (e.trans e2)
  | ex n => exact fun σ' g2 e2 => h σ' g2 (e.trans e2)
abbrev no : Str → Store → Prop := fun _ _ => False
abbrev KS (K : PySem.W.Frag) (W : Wish) (D : Ends) (g : Gh) : RS → Prop := KR no (okS K W D g)
theorem KS.ext {K : PySem.W.Frag} {W : Wish} {D : Ends} {g g' : Gh} {r : RS} (e : Ext g g') (h : KS K W D g r) : KS K W D g' r := KR.mono h (fun b hb => okS.goes g g' b e hb) fun _ _ z => z
def VS (X : Cx) (W : Wish) (s : Stmt) (f : FS) : Prop := ∃ t, PS X s t ∧ ∀ ρ st σ g D, Rel X.K ρ st σ g → KS X.K W D g (f ρ st) → t D σ g.H
def VSs (X : Cx) (W : Wish) (s : List Stmt) (f : FS) : Prop := ∃ t, PSs X s t ∧ ∀ ρ st σ g D, Rel X.K ρ st σ g → KS X.K W D g (f ρ st) → t D σ g.H
/-- an expression's answer within a statement -/
def liftS {α : Type} (ρ : Slots) (r : R α) (k : α → RS) : RS := match r with
  | .ok a => k a
  | .exc n st => .ok (.ex n, ρ, st)
  | .bad => .bad
@[simp] theorem liftS_ok {α : Type} (ρ : Slots) (a : α) (k : α → RS) : liftS ρ (.ok a) k = k a := rfl
@[simp] theorem liftS_exc {α : Type} (ρ : Slots) (n : Str) (st : Store) (k : α → RS) : liftS ρ (.exc n st) k = .ok (.ex n, ρ, st) := rfl
@[simp] theorem liftS_bad {α : Type} (ρ : Slots) (k : α → RS) : liftS ρ (.bad) k = .bad := rfl
theorem RE.runS {K : PySem.W.Frag} {t : TE} {f : FE} (run : RE K W t f) : ∀ (ρ : Slots) (st : Store) (σ : L2.St) (g : Gh) (P : VK) (D : Ends) (k : Vd × Store → RS), Rel K ρ st σ g →
    KS K W D g (liftS ρ (f ρ st) k) → (∀ d st1 v g1, Ext g g1 → Rel K ρ st1 σ g1 → HasV K g1 d v → KS K W D g1 (k (d, st1)) → P v g1.H) → t σ g.H P := by
  intro ρ st σ g P D k rel kr hP
  refine run ρ st σ g P rel ?_
  cases hf : f ρ st with
  | ok a =>
    rw [hf] at kr
    exact fun v g1 e r hv => hP a.1 a.2 v g1 e r hv (KS.ext e kr)
  | exc n s =>
    rw [hf] at kr
    exact fun g1 e r => kr σ g1 e r
  | bad => rw [hf] at kr; exact kr.elim
theorem VE.runS {e : Expr} {f : FE} (h : VE X W e f) : ∃ t, PE X e t ∧ ∀ (ρ : Slots) (st : Store) (σ : L2.St) (g : Gh) (P : VK) (D : Ends) (k : Vd × Store → RS), Rel X.K ρ st σ g →
    KS X.K W D g (liftS ρ (f ρ st) k) → (∀ d st1 v g1, Ext g g1 → Rel X.K ρ st1 σ g1 → HasV X.K g1 d v → KS X.K W D g1 (k (d, st1)) → P v g1.H) → t σ g.H P := by
  obtain ⟨t, pe, run⟩ := h
  refine ⟨t, pe, fun ρ st σ g P D k rel kr hP => run ρ st σ g P rel ?_⟩
  cases hf : f ρ st with
  | ok a =>
    rw [hf] at kr
    exact fun v g1 e r hv => hP a.1 a.2 v g1 e r hv (KS.ext e kr)
  | exc n s =>
    rw [hf] at kr
    exact fun g1 e r => kr σ g1 e r
  | bad => rw [hf] at kr; exact kr.elim
theorem VT.runS {e : Expr} {f : FT} (h : VT X W e f) : ∃ t, PT X e t ∧ ∀ (ρ : Slots) (st : Store) (σ : L2.St) (g : Gh) (P : Bool → Hp → Prop) (D : Ends) (k : Bool × Store → RS), Rel X.K ρ st σ g →
    KS X.K W D g (liftS ρ (f ρ st) k) → (∀ d st1 g1, Ext g g1 → Rel X.K ρ st1 σ g1 → KS X.K W D g1 (k (d, st1)) → P d g1.H) → t σ g.H P := by
  obtain ⟨t, pe, run⟩ := h
  refine ⟨t, pe, fun ρ st σ g P D k rel kr hP => run ρ st σ g P rel ?_⟩
  cases hf : f ρ st with
  | ok a =>
    rw [hf] at kr
    exact fun g1 e r => hP a.1 a.2 g1 e r (KS.ext e kr)
  | exc n s =>
    rw [hf] at kr
    exact fun g1 e r => kr σ g1 e r
  | bad => rw [hf] at kr; exact kr.elim
def sNil : FS := fun ρ st => .ok (.nx, ρ, st)
def sSeq (f h : FS) : FS := fun ρ st => f ρ st >>= fun a => match a.1 with
  | .nx => h a.2.1 a.2.2
  | o => .ok (o, a.2)
theorem vss_nil : VSs X W [] sNil := ⟨_, pss_nil, fun ρ st σ g D rel k => k σ g (Ext.refl g) rel⟩
theorem seq_run {D : Ends} {g : Gh} {f h : FS} {ρ : Slots} {st : Store} {u : TS} (hu : ∀ ρ st σ g D, Rel X.K ρ st σ g → KS X.K W D g (h ρ st) → u D σ g.H) (k : KS X.K W D g (sSeq f h ρ st)) : KS X.K W { D with nx := u D } g (f ρ st) := by
  unfold sSeq at k
  refine KR.mono (KR.bind k) (fun a ha => ?_) fun n s hn => hn
  obtain ⟨o, ρ', st'⟩ := a
  cases o with
  | nx => exact fun σ' g' e r => hu ρ' st' σ' g' D r (KS.ext e ha)
  | rt d => exact ha
  | bk => exact ha
  | ct => exact ha
  | ex n => exact ha
theorem vss_cons {s : Stmt} {ss : List Stmt} {f h : FS} (a : VS X W s f) (b : VSs X W ss h) : VSs X W (s :: ss) (sSeq f h) := by
  obtain ⟨t, pt, run⟩ := a
  obtain ⟨u, pu, run2⟩ := b
  exact ⟨_, pss_cons pt pu, fun ρ st σ g D rel k => run ρ st σ g _ rel (seq_run run2 k)⟩
theorem vss_one {s : Stmt} {f : FS} (a : VS X W s f) : VSs X W [s] f := let ⟨t, pt, run⟩ := a; ⟨_, pss_one pt, run⟩
def sBk : FS := fun ρ st => .ok (.bk, ρ, st)
def sCt : FS := fun ρ st => .ok (.ct, ρ, st)
theorem vs_pass {pos : Pos} : VS X W (.Pass pos) sNil := ⟨_, ps_pass, fun ρ st σ g D rel k => k σ g (Ext.refl g) rel⟩
theorem vs_break {pos : Pos} : VS X W (.Break pos) sBk := ⟨_, ps_break, fun ρ st σ g D rel k => k σ g (Ext.refl g) rel⟩
theorem vs_cont {pos : Pos} : VS X W (.Continue pos) sCt := ⟨_, ps_continue, fun ρ st σ g D rel k => k σ g (Ext.refl g) rel⟩
def sRet (f : FE) : FS := fun ρ st => liftS ρ (f ρ st) fun a => .ok (.rt a.1, ρ, a.2)
theorem vs_ret {e : Expr} {f : FE} {pos : Pos} (h : VE X W e f) : VS X W (.Return (some e) pos) (sRet f) := by
  obtain ⟨t, pe, run⟩ := h.runS
  refine ⟨_, ps_ret pe, fun ρ st σ g D rel k => ?_⟩
  exact run ρ st σ g _ D _ rel k fun d st1 v g1 e1 r1 h1 k1 => k1 v σ g1 (Ext.refl g1) r1 h1
def sRetN : FS := fun ρ st => .ok (.rt (.p .none), ρ, st)
theorem vs_retN {pos : Pos} : VS X W (.Return none pos) sRetN := ⟨_, ps_retN, fun ρ st σ g D rel k => k .non σ g (Ext.refl g) rel .non⟩
def sExpr (f : FE) : FS := fun ρ st => liftS ρ (f ρ st) fun a => .ok (.nx, ρ, a.2)
theorem vs_expr {e : Expr} {f : FE} {pos : Pos} (h : VE X W e f) (hs : swapsWith e none pos.line X.env = pure false := by rfl) : VS X W (.Expr e pos) (sExpr f) := by
  obtain ⟨t, pe, run⟩ := h.runS
  refine ⟨_, ps_expr pe hs, fun ρ st σ g D rel k => ?_⟩
  exact run ρ st σ g _ D _ rel k fun d st1 v g1 e1 r1 h1 k1 => k1 σ g1 (Ext.refl g1) r1
def sIf (c : FT) (f h : FS) : FS := fun ρ st => liftS ρ (c ρ st) fun a => if a.1 = true then f ρ a.2 else h ρ a.2
theorem vs_if {c : Expr} {a b : List Stmt} {fc : FT} {f h : FS} {pos : Pos} (hc : VT X W c fc) (ha : VSs X W a f) (hb : VSs X W b h) : VS X W (.If c a b pos) (sIf fc f h) := by
  obtain ⟨t, pt, run⟩ := hc.runS
  obtain ⟨u, pu, run2⟩ := ha
  obtain ⟨v, pv, run3⟩ := hb
  refine ⟨_, ps_if pt pu pv, fun ρ st σ g D rel k => ?_⟩
  refine run ρ st σ g _ D _ rel k fun d st1 g1 e1 r1 k1 => ?_
  cases d with
  | true => rw [if_pos rfl] at k1 ⊢; exact run2 ρ st1 σ g1 D r1 k1
  | false => rw [if_neg Bool.false_ne_true] at k1 ⊢; exact run3 ρ st1 σ g1 D r1 k1

/-! ### targets -/
abbrev FG := Vd → Slots → Store → R Slots
/-- the slots but those at vs stand as they stood -/
def But (vs : List Nat) (σ σ' : L2.St) : Prop := σ'.length = σ.length ∧ ∀ j, j ∉ vs → σ'[j]? = σ[j]?
theorem But.refl {vs : List Nat} (σ : L2.St) : But vs σ σ := ⟨rfl, fun _ _ => rfl⟩
theorem But.trans {vs : List Nat} {a b c : L2.St} (h : But vs a b) (h' : But vs b c) : But vs a c := ⟨h'.1.trans h.1, fun j hj => (h'.2 j hj).trans (h.2 j hj)⟩
def VG (X : Cx) (vs : List Nat) (tg : Expr) (f : FG) : Prop :=
  ∃ t, PG X tg t ∧ ∀ ρ st σ g d v (Q : L2.St → Hp → Prop), Rel X.K ρ st σ g → HasV X.K g d v → KR no (fun ρ' => ∀ σ', But vs σ σ' → Rel X.K ρ' st σ' g → Q σ' g.H) (f d ρ st) → t v σ g.H Q
theorem Sl.set {K : PySem.W.Frag} {g : Gh} {ρ : Slots} {σ : L2.St} (h : Sl K g ρ σ) {d : Vd} {v : V} (hv : HasV K g d v) (i : Nat) : Sl K g (ρ.set i (some d)) (σ.set i (some v)) := by
  refine ⟨by simp [h.1], fun j e hj => ?_⟩
  rw [List.getElem?_set] at hj
  split at hj
  · rename_i hij
    subst hij
    split at hj
    · rename_i hl
      cases hj
      exact ⟨v, by rw [List.getElem?_set_self (by rw [h.1]; exact hl)], hv⟩
    · cases hj
  · rename_i hij
    obtain ⟨w, h1, h2⟩ := h.2 j e hj
    exact ⟨w, by rw [List.getElem?_set_ne hij]; exact h1, h2⟩
def gSet (i : Nat) : FG := fun d ρ _ => .ok (ρ.set i (some d))
theorem vg_name {i : Nat} {x : Str} {pos : Pos} (hN : X.N.Nodup) (hi : X.N[i]? = some x) (hx : Loc X.env.scope x) (hf : X.fn x = true ∨ X.env.scope.names.lookup x = some .local := by first | exact .inl rfl | exact .inr rfl | assumption) : VG X [i] (.Name x pos) (gSet i) :=
  ⟨_, pg_name hN hi hx hf, fun ρ st σ g d v Q rel hv k => k _ ⟨by simp, fun j hj => List.getElem?_set_ne (fun e => hj (by simp [e]))⟩ ⟨rel.wd, rel.sl.set hv i⟩⟩
abbrev FGs := List Vd → Slots → Store → R Slots
def VGs (X : Cx) (ws : List Nat) (ts : List Expr) (f : FGs) : Prop :=
  ∃ t, PGs X ts t ∧ ∀ ρ st σ g ds vs (Q : L2.St → Hp → Prop), Rel X.K ρ st σ g → HasVL X.K g ds vs → KR no (fun ρ' => ∀ σ', But ws σ σ' → Rel X.K ρ' st σ' g → Q σ' g.H) (f ds ρ st) → t vs σ g.H Q
def gsNil : FGs := fun ds ρ _ => match ds with
  | [] => .ok ρ
  | _ => .bad
def gsCons (f : FG) (h : FGs) : FGs := fun ds ρ st => match ds with
  | d :: r => f d ρ st >>= fun ρ' => h r ρ' st
  | [] => .bad
theorem vgs_nil : VGs X [] [] gsNil := by
  refine ⟨_, pgs_nil, fun ρ st σ g ds vs Q rel hv k => ?_⟩
  cases ds with
  | nil => exact ⟨hv.nil_inv, k σ (But.refl σ) rel⟩
  | cons d r => exact k.elim
theorem vgs_cons {e : Expr} {es : List Expr} {f : FG} {h : FGs} {v1 v2 : List Nat} (a : VG X v1 e f) (b : VGs X v2 es h) (hs : (assignEach (e :: es) X.env).map (·.2) = assign e X.env :: (assignEach es X.env).map (·.2) := by rfl) : VGs X (v1 ++ v2) (e :: es) (gsCons f h) := by
  obtain ⟨t, pt, run⟩ := a
  obtain ⟨u, pu, run2⟩ := b
  refine ⟨_, pgs_cons pt pu hs, fun ρ st σ g ds vs Q rel hv k => ?_⟩
  cases ds with
  | nil => exact k.elim
  | cons d r =>
    obtain ⟨v, vr, rfl, h1, h2⟩ := hv.uncons
    refine ⟨v, vr, rfl, run ρ st σ g d v _ rel h1 ?_⟩
    refine KR.mono (KR.bind k) (fun ρ' hρ σ' b1 r' => ?_) fun n s hn => hn
    refine run2 ρ' st σ' g r vr Q r' h2 (KR.mono hρ (fun ρ2 h2 σ2 b2 r2 => h2 σ2 ?_ r2) fun n s hn => hn)
    exact ⟨b2.1.trans b1.1, fun j hj => (b2.2 j fun z => hj (List.mem_append_right _ z)).trans (b1.2 j fun z => hj (List.mem_append_left _ z))⟩
theorem PG.or {tg : Expr} {t t' : TG} (a : PG X tg t) (b : PG X tg t') : PG X tg (fun v σ H Q => t v σ H Q ∨ t' v σ H Q) := ⟨fun pins s σ H v u Q I r h => by
  rcases h with h | h
  · exact a.run pins s σ H v u Q I r h
  · exact b.run pins s σ H v u Q I r h⟩
/-- a tuple or a list taken apart -/
def gTupV (n : Nat) (f : FGs) : FG := fun d ρ st => peek st d >>= fun x => optR (itemsOf x) >>= fun ds => if ds.length = n then f (ds.map .p) ρ st else .bad
theorem HasL.vl {K : PySem.W.Frag} {g : Gh} {ds : List PyData} {xs : List V} (h : HasL K g.F ds xs) : HasVL K g (ds.map .p) xs := ⟨by rw [List.length_map]; exact h.1, fun i d v hd hv => by
  rw [List.getElem?_map] at hd
  cases e : ds[i]? with
  | none => rw [e] at hd; cases hd
  | some x => rw [e] at hd; cases hd; exact h.2 i x v e hv⟩
theorem optR_bind {α β : Type} {ne : Str → Store → Prop} {ok : β → Prop} {o : Option α} {k : α → R β} (h : KR ne ok (optR o >>= k)) : ∃ a, o = some a ∧ KR ne ok (k a) := by
  cases o with
  | some a => exact ⟨a, rfl, h⟩
  | none => exact h.elim
theorem vg_tup {es : List Expr} {k : Nat} {f : FGs} {n : Nat} {vs : List Nat} {pos : Pos} (hc : X.calm = true) (h : VGs X vs es f) (hn : (assignEach es X.env).length = n := by rfl) (hst : (assignEach es X.env).findIdx? (·.1) = none := by rfl) : VG X vs (.Tuple es k pos) (gTupV n f) := by
  obtain ⟨t, pt, run⟩ := h
  refine ⟨_, PG.or (pg_tup hc pt hn hst) (pg_lst hc pt hn hst), fun ρ st σ g d v Q rel hv k => ?_⟩
  obtain ⟨x, px, k1⟩ := peek_bind k
  obtain ⟨ds, ei, k2⟩ := optR_bind k1
  split at k2
  · rename_i hl
    obtain ⟨a, xs, rfl, s, l⟩ := (pk_of rel.wd hv px).sq rel.wd ei
    rcases s with s | s
    · exact .inr ⟨a, xs, rfl, s, l.1.trans hl, run ρ st σ g (ds.map .p) xs Q rel l.vl k2⟩
    · exact .inl ⟨a, xs, rfl, s, l.1.trans hl, run ρ st σ g (ds.map .p) xs Q rel l.vl k2⟩
  · exact k2.elim
def sAsg (f : FE) (h : FG) : FS := fun ρ st => liftS ρ (f ρ st) fun a => h a.1 ρ a.2 >>= fun ρ' => .ok (.nx, ρ', a.2)
theorem vs_asg {tg e : Expr} {f : FE} {h : FG} {vs : List Nat} {pos : Pos} (he : VE X W e f) (hg : VG X vs tg h) (hs : swapsWithSole [tg] e pos.line X.env = pure false := by rfl) (hw : swappedStores [tg] e X.env = pure none := by rfl)
    (h1 : (assignEach [tg] X.env).map (·.2) = [assign tg X.env] := by rfl) : VS X W (.Assign [tg] e pos) (sAsg f h) := by
  obtain ⟨t, pe, run⟩ := he.runS
  obtain ⟨u, pu, run2⟩ := hg
  refine ⟨_, ps_asg pe pu hs hw h1, fun ρ st σ g D rel k => ?_⟩
  refine run ρ st σ g _ D _ rel k fun d st1 v g1 e1 r1 hv k1 => ?_
  refine run2 ρ st1 σ g1 d v _ r1 hv ?_
  exact KR.mono (KR.bind k1) (fun ρ' hρ σ' _ r' => hρ σ' g1 (Ext.refl g1) r') fun n s hn => hn
def sSet (i : Nat) (f : FE) : FS := fun ρ st => liftS ρ (f ρ st) fun a => .ok (.nx, ρ.set i (some a.1), a.2)
theorem rs_set {K : PySem.W.Frag} {t : TE} {f : FE} {i : Nat} (run : RE K W t f) (ρ : Slots) (st : Store) (σ : L2.St) (g : Gh) (D : Ends) (rel : Rel K ρ st σ g) (k : KS K W D g (sSet i f ρ st)) : tAsg t (gName i) D σ g.H :=
  RE.runS run ρ st σ g _ D _ rel k fun d st1 v g1 e1 r1 hv k1 => k1 _ g1 (Ext.refl g1) ⟨r1.wd, r1.sl.set hv i⟩
theorem vs_set {i : Nat} {x : Str} {e : Expr} {f : FE} {pos pos' : Pos} (hN : X.N.Nodup) (hi : X.N[i]? = some x) (hx : Loc X.env.scope x) (he : VE X W e f) (hs : swapsWith e (some (.Name x pos')) pos.line X.env = pure false := by rfl) (hf : X.fn x = true ∨ X.env.scope.names.lookup x = some .local := by first | exact .inl rfl | exact .inr rfl | assumption) :
    VS X W (.Assign [.Name x pos'] e pos) (sSet i f) := by
  obtain ⟨t, pe, run⟩ := he.runS
  refine ⟨_, ps_set hN hi hx pe hs hf, fun ρ st σ g D rel k => ?_⟩
  refine run ρ st σ g _ D _ rel k fun d st1 v g1 e1 r1 hv k1 => ?_
  exact k1 _ g1 (Ext.refl g1) ⟨r1.wd, r1.sl.set hv i⟩
end
end VL

namespace VL
open PySem PySem.Spec PyProof.Rows L2

/-- what is walked: its items; own: the store's object that holds them -/
structure Src where
  ds : List PyData
  own : Option Nat
def Src.Ok (s : Src) (st : Store) : Prop := match s.own with
  | none => True
  | some k => st[k]? = some (.lst s.ds)
abbrev FI := Slots → Store → R (Src × Store)
/-- the walk J hands out the items -/
def WalkD (K : PySem.W.Frag) (s : Src) (g0 : Gh) (J : It) : Prop := ∀ (st : Store) (g : Gh), Ext g0 g → Wd K st g → s.Ok st →
  (∀ i, i < s.ds.length → J.go i g.H) ∧ (∀ i, s.ds.length ≤ i → J.stop i g.H) ∧
  ∀ i x H' d, s.ds[i]? = some d → J.yld i g.H x H' → ∃ g', g'.H = H' ∧ Ext g g' ∧ Wd K st g' ∧ Has K g'.F d x
section
variable {X : Cx} {W : Wish}
def okI (K : PySem.W.Frag) (ρ : Slots) (σ : L2.St) (P : It → Hp → Prop) (g : Gh) (a : Src × Store) : Prop := ∀ J g', Ext g g' → Rel K ρ a.2 σ g' → a.1.Ok a.2 → WalkD K a.1 g' J → P J g'.H
theorem okI.goes {K : PySem.W.Frag} {ρ : Slots} {σ : L2.St} {P : It → Hp → Prop} : Goes (okI K ρ σ P) := fun g g' b e h J g2 e2 => h J g2 (e.trans e2)
def VI (X : Cx) (W : Wish) (tg iter : Expr) (f : FI) : Prop :=
  ∃ wi, PI X tg iter wi ∧ ∀ ρ st σ g P, Rel X.K ρ st σ g → KR (WN X.K W ρ σ g) (okI X.K ρ σ P g) (f ρ st) → wi σ g.H P
theorem VI.runS {tg iter : Expr} {f : FI} (h : VI X W tg iter f) : ∃ wi, PI X tg iter wi ∧ ∀ (ρ : Slots) (st : Store) (σ : L2.St) (g : Gh) (P : It → Hp → Prop) (D : Ends) (k : Src × Store → RS), Rel X.K ρ st σ g →
    KS X.K W D g (liftS ρ (f ρ st) k) → (∀ s st1 J g1, Ext g g1 → Rel X.K ρ st1 σ g1 → s.Ok st1 → WalkD X.K s g1 J → KS X.K W D g1 (k (s, st1)) → P J g1.H) → wi σ g.H P := by
  obtain ⟨t, pe, run⟩ := h
  refine ⟨t, pe, fun ρ st σ g P D k rel kr hP => run ρ st σ g P rel ?_⟩
  cases hf : f ρ st with
  | ok a =>
    rw [hf] at kr
    exact fun J g1 e r o w => hP a.1 a.2 J g1 e r o w (KS.ext e kr)
  | exc n s =>
    rw [hf] at kr
    exact fun g1 e r => kr σ g1 e r
  | bad => rw [hf] at kr; exact kr.elim

/-! ### lists, tuples -/
def iAny (K : PySem.W.Frag) (tl : TE) : TI := fun σ H R => tl σ H fun x H1 => ∃ a, x = .ref a ∧ (((∃ xs, SqL K H1 a xs) ∧ R (Itl K a) H1) ∨ ((∃ xs, SqT K H1 a xs) ∧ R (Itt K a) H1))
theorem pi_any {tg l : Expr} {tl : TE} (hl : PE X l tl) : PI X tg l (iAny X.K tl) := by
  refine ⟨fun pins s σ H R I h => ?_⟩
  refine thn (hl.run pins s σ H _ I h) fun v s1 ⟨x, H1, I1, r1, q1⟩ => ?_
  obtain ⟨a, rfl, q⟩ := q1
  cases r1
  have hf : FpOk X pins H1 s1.heap.objs.size := I1.fpOk (Nat.le_refl _) (I1.hok.fresh (Nat.le_refl _))
  rcases q with ⟨⟨xs, hq⟩, q⟩ | ⟨⟨xs, hq⟩, q⟩
  · obtain ⟨its, rv, p, hz⟩ := I1.list hq
    refine wpAny_pyIter_list p.isList ⟨s1.heap.objs.size, [s1.heap.objs.size], _, _, H1, rfl, I1.kept (t' := s1.toks) fun b o e => Heap.get?_push_of_some _ e, turn_list a _, ⟨_, Heap.get?_push_size _ rfl, rfl, rfl⟩, fun b hb => ?_, q⟩
    rw [List.mem_singleton.mp hb]; exact hf
  · obtain ⟨its, rv, p, hz⟩ := I1.tuple hq
    refine wpAny_pyIter_tuple (show s1.heap.IsTuple a its.toArray from p) ⟨s1.heap.objs.size, [s1.heap.objs.size], _, _, H1, rfl, I1.kept (t' := s1.toks) fun b o e => Heap.get?_push_of_some _ e, turn_tuple a _, ⟨_, Heap.get?_push_size _ rfl, rfl, rfl⟩, fun b hb => ?_, q⟩
    rw [List.mem_singleton.mp hb]; exact hf
/-- where a value's items are: its own place, if it is one that may change -/
def srcOf (st : Store) (x : Vd) : R Src := match x with
  | .p d => optR (itemsOf d) >>= fun ds => .ok ⟨ds, none⟩
  | .loc k => match st[k]? with
    | some (.lst ds) => .ok ⟨ds, some k⟩
    | some (.fz d) => optR (itemsOf d) >>= fun ds => .ok ⟨ds, none⟩
    | _ => .bad
def iSeq (f : FE) : FI := fun ρ st => f ρ st >>= fun a => srcOf a.2 a.1 >>= fun s => .ok (s, a.2)
theorem walk_lst {K : PySem.W.Frag} {s : Src} {g0 : Gh} {a : Addr} (h : ∀ (st : Store) (g : Gh), Ext g0 g → Wd K st g → s.Ok st → ∃ xs, SqL K g.H a xs ∧ HasL K g.F s.ds xs) : WalkD K s g0 (Itl K a) := by
  intro st g e w o
  obtain ⟨xs, q, l⟩ := h st g e w o
  refine ⟨fun i hi => ⟨xs, xs[i]'(by rw [l.1]; exact hi), q, List.getElem?_eq_getElem _⟩, fun i hi => ⟨xs, q, by rw [l.1]; exact hi⟩, fun i x H' d hd hy => ?_⟩
  obtain ⟨e1, hy⟩ := hy
  exact ⟨g, e1.symm, Ext.refl g, w, l.2 i d x hd (hy xs q)⟩
theorem walk_tup {K : PySem.W.Frag} {s : Src} {g0 : Gh} {a : Addr} (h : ∀ (st : Store) (g : Gh), Ext g0 g → Wd K st g → s.Ok st → ∃ xs, SqT K g.H a xs ∧ HasL K g.F s.ds xs) : WalkD K s g0 (Itt K a) := by
  intro st g e w o
  obtain ⟨xs, q, l⟩ := h st g e w o
  refine ⟨fun i hi => ⟨xs, xs[i]'(by rw [l.1]; exact hi), q, List.getElem?_eq_getElem _⟩, fun i hi => ⟨xs, q, by rw [l.1]; exact hi⟩, fun i x H' d hd hy => ?_⟩
  obtain ⟨e1, hy⟩ := hy
  exact ⟨g, e1.symm, Ext.refl g, w, l.2 i d x hd (hy xs q)⟩
theorem has_items {K : PySem.W.Frag} {F : Hp} {d : PyData} {ds : List PyData} {v : V} (h : Has K F d v) (e : itemsOf d = some ds) : ∃ a xs, v = .ref a ∧ SqB K F a xs ∧ HasL K F ds xs := by
  cases d with
  | list xs =>
    cases e
    obtain ⟨a, vs, rfl, s, l⟩ := h.lst_inv
    exact ⟨a, vs, rfl, .inl s, l⟩
  | tuple xs =>
    cases e
    obtain ⟨a, vs, rfl, s, l⟩ := h.tup_inv
    exact ⟨a, vs, rfl, .inr s, l⟩
  | _ => cases e
theorem walk_of_has {K : PySem.W.Frag} {g0 : Gh} {a : Addr} {xs : List V} {ds : List PyData} (s : SqB K g0.F a xs) (l : HasL K g0.F ds xs) : (SqL K g0.F a xs ∧ WalkD K ⟨ds, none⟩ g0 (Itl K a)) ∨ (SqT K g0.F a xs ∧ WalkD K ⟨ds, none⟩ g0 (Itt K a)) := by
  rcases s with s | s
  · exact .inl ⟨s, walk_lst fun st g e w o => ⟨xs, (e.frz.trans w.sub).seq s, l.mono e.frz⟩⟩
  · exact .inr ⟨s, walk_tup fun st g e w o => ⟨xs, seqT_mono (e.frz.trans w.sub) s, l.mono e.frz⟩⟩
theorem vi_seq {tg l : Expr} {f : FE} (h : VE X W l f) : VI X W tg l (iSeq f) := by
  obtain ⟨t, pe, run⟩ := h.run
  refine ⟨_, pi_any pe, fun ρ st σ g P rel k => ?_⟩
  refine run ρ st σ g _ (okI X.K ρ σ P) _ okI.goes rel k fun d1 st1 v1 g1 e1 r1 h1 k1 => ?_
  have frozen : ∀ {d : PyData} {ds : List PyData}, Has X.K g1.F d v1 → itemsOf d = some ds → okI X.K ρ σ P g1 (⟨ds, none⟩, st1) → ∃ a, v1 = .ref a ∧ (((∃ xs, SqL X.K g1.H a xs) ∧ P (Itl X.K a) g1.H) ∨ ((∃ xs, SqT X.K g1.H a xs) ∧ P (Itt X.K a) g1.H)) := fun {d ds} hh ei k => by
    obtain ⟨a, xs, rfl, s, l⟩ := has_items hh ei
    refine ⟨a, rfl, ?_⟩
    rcases walk_of_has s l with ⟨s, w⟩ | ⟨s, w⟩
    · exact .inl ⟨⟨xs, r1.wd.sub.seq s⟩, k _ g1 (Ext.refl g1) r1 trivial w⟩
    · exact .inr ⟨⟨xs, seqT_mono r1.wd.sub s⟩, k _ g1 (Ext.refl g1) r1 trivial w⟩
  cases d1 with
  | p d =>
    obtain ⟨s, es, k2⟩ : ∃ s, srcOf st1 (.p d) = .ok s ∧ okI X.K ρ σ P g1 (s, st1) := by
      cases ei : itemsOf d with
      | none => simp only [srcOf, ei] at k1; exact k1.elim
      | some ds => simp only [srcOf, ei] at k1; exact ⟨⟨ds, none⟩, by simp only [srcOf, ei]; rfl, k1⟩
    cases ei : itemsOf d with
    | none => simp only [srcOf, ei] at es; cases es
    | some ds =>
      have : s = ⟨ds, none⟩ := by simp only [srcOf, ei] at es; cases es; rfl
      subst this
      exact frozen h1 ei k2
  | loc j =>
    obtain ⟨a, ha, rfl⟩ := h1
    simp only [srcOf] at k1
    cases ej : st1[j]? with
    | none => simp only [ej] at k1; exact k1.elim
    | some ob =>
      have own := r1.wd.own j a ob ha ej
      cases ob with
      | lst ds =>
        simp only [ej] at k1
        obtain ⟨_, xs, hx, l⟩ := own
        refine ⟨a, rfl, .inl ⟨⟨xs, .inl (.inl hx)⟩, k1 _ g1 (Ext.refl g1) r1 (show st1[j]? = _ from ej) (walk_lst fun st g e w o => ?_)⟩⟩
        obtain ⟨B, hB, _⟩ := e.new
        have hj : g.A[j]? = some a := by rw [hB, List.getElem?_append_left (List.getElem?_eq_some_iff.mp ha).1]; exact ha
        obtain ⟨_, ys, hy, l2⟩ := w.own j a _ hj (show st[j]? = some (.lst ds) from o)
        exact ⟨ys, .inl (.inl hy), l2⟩
      | fz d =>
        cases ei : itemsOf d with
        | none => simp only [ej, ei] at k1; exact k1.elim
        | some ds =>
          simp only [ej, ei] at k1
          exact frozen own ei k1
      | dct t ds => simp only [ej] at k1; exact k1.elim

/-! ### range -/
def rangeD (lo hi : Int) : List PyData := (List.range (hi - lo).toNat).map fun (i : Nat) => .int (lo + i)
theorem rangeD_len (lo hi : Int) : (rangeD lo hi).length = (hi - lo).toNat := by simp [rangeD]
theorem rangeD_get {lo hi : Int} {i : Nat} {d : PyData} (h : (rangeD lo hi)[i]? = some d) : d = .int (lo + i) := by
  unfold rangeD at h
  rw [List.getElem?_map] at h
  cases e : (List.range (hi - lo).toNat)[i]? with
  | none => rw [e] at h; cases h
  | some j =>
    rw [e] at h
    obtain ⟨h1, h2⟩ := List.getElem?_eq_some_iff.mp e
    rw [List.getElem_range] at h2
    cases h; rw [h2]
theorem walk_range {K : PySem.W.Frag} {g0 : Gh} (lo hi : Int) : WalkD K ⟨rangeD lo hi, none⟩ g0 (Itr lo (hi - lo).toNat) := by
  intro st g e w o
  refine ⟨fun i hi' => ?_, fun i hi' => ?_, fun i x H' d hd hy => ?_⟩
  · have hi' : i < (rangeD lo hi).length := hi'
    rw [rangeD_len] at hi'; exact hi'
  · have hi' : (rangeD lo hi).length ≤ i := hi'
    rw [rangeD_len] at hi'; exact hi'
  · obtain ⟨e1, e2⟩ := hy
    refine ⟨g, e1.symm, Ext.refl g, w, ?_⟩
    rw [rangeD_get hd, e2]; exact .int _
def In62 (i : Int) : Prop := -(2 ^ 62) ≤ i ∧ i < 2 ^ 62
noncomputable instance (i : Int) : Decidable (In62 i) := Classical.propDecidable _
noncomputable def iRange1 (f : FE) : FI := fun ρ st => f ρ st >>= fun a => match a.1 with
  | .p (.int n) => if In62 n then .ok (⟨rangeD 0 n, none⟩, a.2) else .bad
  | _ => .bad
theorem vi_range1 {tg a : Expr} {f : FE} {p pos : Pos} (hg : Gl X "range") (hm : X.mg "range" = none) (h : VE X W a f) (hs : starEach [a] X.env = [(false, eval a X.env)] := by rfl) (he : starEach [a] X.env = (false, eval a X.env) :: starEach [] X.env := by rfl) : VI X W tg (.Call (.Name "range" p) [a] [] pos) (iRange1 f) := by
  obtain ⟨t, pe, run⟩ := h.run
  refine ⟨_, pi_range1 hg hm (pa_cons (hs := he) pe pa_nil) hs, fun ρ st σ g P rel k => ?_⟩
  refine run ρ st σ g _ (okI X.K ρ σ P) _ okI.goes rel k fun d1 st1 v1 g1 e1 r1 h1 k1 => ?_
  cases d1 with
  | loc _ => exact k1.elim
  | p d =>
    cases d with
    | int n =>
      simp only at k1
      split at k1
      · rename_i hn
        refine ⟨n, by rw [show v1 = .int n from Has.int_inv h1], hn.1, hn.2, ?_⟩
        have := k1 _ g1 (Ext.refl g1) r1 trivial (walk_range 0 n)
        rw [Int.sub_zero] at this; exact this
      · exact k1.elim
    | _ => exact k1.elim
noncomputable def iRange2 (f h : FE) : FI := fun ρ st => f ρ st >>= fun a => h ρ a.2 >>= fun b => match a.1, b.1 with
  | .p (.int m), .p (.int n) => if In62 m ∧ In62 n then .ok (⟨rangeD m n, none⟩, b.2) else .bad
  | _, _ => .bad
theorem vi_range2 {tg a b : Expr} {f h : FE} {p pos : Pos} (hg : Gl X "range") (hm : X.mg "range" = none) (ha : VE X W a f) (hb : VE X W b h) (hs : starEach [a, b] X.env = [(false, eval a X.env), (false, eval b X.env)] := by rfl) (hs2 : starEach [b] X.env = [(false, eval b X.env)] := by rfl)
    (he : starEach [a, b] X.env = (false, eval a X.env) :: starEach [b] X.env := by rfl) (he2 : starEach [b] X.env = (false, eval b X.env) :: starEach [] X.env := by rfl) : VI X W tg (.Call (.Name "range" p) [a, b] [] pos) (iRange2 f h) := by
  obtain ⟨t, pe, run⟩ := ha.run
  obtain ⟨u, pu, run2⟩ := hb.run
  refine ⟨_, pi_range2 hg hm (pa_cons (hs := he) pe (pa_cons (hs := he2) pu pa_nil)) hs hs2, fun ρ st σ g P rel k => ?_⟩
  refine run ρ st σ g _ (okI X.K ρ σ P) _ okI.goes rel k fun d1 st1 v1 g1 e1 r1 h1 k1 => ?_
  refine run2 ρ st1 σ g1 _ (okI X.K ρ σ P) _ okI.goes r1 k1 fun d2 st2 v2 g2 e2 r2 h2 k2 => ?_
  cases d1 with
  | loc _ => exact k2.elim
  | p d =>
    cases d with
    | int m =>
      cases d2 with
      | loc _ => exact k2.elim
      | p d' =>
        cases d' with
        | int n =>
          simp only at k2
          split at k2
          · rename_i hn
            exact ⟨m, n, by rw [show v1 = .int m from Has.int_inv h1, show v2 = .int n from Has.int_inv h2], ⟨hn.1.1, hn.1.2, hn.2.1, hn.2.2⟩, k2 _ g2 (Ext.refl g2) r2 trivial (walk_range m n)⟩
          · exact k2.elim
        | _ => exact k2.elim
    | _ => exact k2.elim

/-! ### for -/
open Classical in
noncomputable def forG (s : Src) (gt : FG) (body : FS) : List PyData → Slots → Store → RS
  | [], ρ, st => if s.Ok st then .ok (.nx, ρ, st) else .bad
  | d :: r, ρ, st => if s.Ok st then gt (.p d) ρ st >>= fun ρ1 => body ρ1 st >>= fun a => match a.1 with
      | .nx => forG s gt body r a.2.1 a.2.2
      | .ct => forG s gt body r a.2.1 a.2.2
      | .bk => .ok (.nx, a.2)
      | o => .ok (o, a.2)
    else .bad
noncomputable def sFor (fi : FI) (gt : FG) (body : FS) : FS := fun ρ st => liftS ρ (fi ρ st) fun a => forG a.1 gt body a.1.ds ρ a.2
theorem vs_for {tg iter : Expr} {b : List Stmt} {fi : FI} {gt : FG} {vs : List Nat} {body : FS} {pos : Pos} (hp : PassesOwn (model X.prog X.w) X.A X.env X.xe) (hc : X.calm = true) (hi : VI X W tg iter fi) (hg : VG X vs tg gt) (hb : VSs X W b body)
    (hs : ∀ x, foldedSetIterable iter X.env x = pure x := by intro _; rfl) : VS X W (.For tg iter b [] pos) (sFor fi gt body) := by
  obtain ⟨wi, pi, runI⟩ := hi.runS
  obtain ⟨tg', pg, runG⟩ := hg
  obtain ⟨tb, pb, runB⟩ := hb
  refine ⟨_, ps_for hp hc pi pg pb hs, fun ρ st σ g D rel k => ?_⟩
  refine runI ρ st σ g _ D _ rel k fun s st1 J g1 e1 r1 o1 w1 k1 => ?_
  refine ⟨fun i m σ' H => ∃ ρ' st' g', g'.H = H ∧ Ext g1 g' ∧ Rel X.K ρ' st' σ' g' ∧ i ≤ s.ds.length ∧ m = s.ds.length - i ∧ KS X.K W D g' (forG s gt body (s.ds.drop i) ρ' st'),
    ⟨s.ds.length, ρ, st1, g1, rfl, Ext.refl g1, r1, Nat.zero_le _, rfl, by rw [List.drop_zero]; exact k1⟩, ?_⟩
  rintro i m σ' H ⟨ρ', st', g', rfl, e', r', hi, rfl, k'⟩
  by_cases hlt : i < s.ds.length
  · rw [List.drop_eq_getElem_cons hlt] at k'
    unfold forG at k'
    split at k'
    · rename_i ok
      obtain ⟨go, stop, yld⟩ := w1 st' g' e' r'.wd ok
      refine .inr ⟨go i hlt, fun σ2 H2 => ∃ ρ2 st2 g2, g2.H = H2 ∧ Ext g1 g2 ∧ Rel X.K ρ2 st2 σ2 g2 ∧ KS X.K W D g2 (forG s gt body (s.ds.drop (i + 1)) ρ2 st2),
        fun σ2 H2 ⟨ρ2, st2, g2, q1, q2, q3, q4⟩ => ⟨s.ds.length - (i + 1), by omega, ρ2, st2, g2, q1, q2, q3, hlt, rfl, q4⟩, fun x H2 hy => ?_⟩
      obtain ⟨g2, rfl, e2, w2, hx⟩ := yld i x H2 s.ds[i] (List.getElem?_eq_getElem hlt) hy
      have r2 : Rel X.K ρ' st' σ' g2 := ⟨w2, r'.sl.ext e2⟩
      refine runG ρ' st' σ' g2 (.p s.ds[i]) x _ r2 hx ?_
      refine KR.mono (KR.bind (KS.ext e2 k')) (fun ρ1 h1 σ1 _ r1' => ?_) fun n s hn => hn
      refine runB ρ1 st' σ1 g2 _ r1' ?_
      refine KR.mono (KR.bind h1) (fun a ha => ?_) fun n s hn => hn
      obtain ⟨o, ρ3, st3⟩ := a
      cases o with
      | nx => exact fun σ3 g3 e3 r3 => ⟨ρ3, st3, g3, rfl, (e'.trans e2).trans e3, r3, KS.ext e3 ha⟩
      | ct => exact fun σ3 g3 e3 r3 => ⟨ρ3, st3, g3, rfl, (e'.trans e2).trans e3, r3, KS.ext e3 ha⟩
      | bk => exact ha
      | rt d => exact ha
      | ex n => exact ha
    · exact k'.elim
  · have ei : i = s.ds.length := by omega
    subst ei
    rw [List.drop_length] at k'
    unfold forG at k'
    split at k'
    · rename_i ok
      obtain ⟨go, stop, yld⟩ := w1 st' g' e' r'.wd ok
      exact .inl ⟨stop _ (Nat.le_refl _), k' σ' g' (Ext.refl g') r'⟩
    · exact k'.elim

/-! ### while -/
def whileG (c : FT) (body : FS) : Nat → Slots → Store → RS
  | 0, _, _ => .bad
  | n + 1, ρ, st => liftS ρ (c ρ st) fun a => if a.1 = true then body ρ a.2 >>= fun b => match b.1 with
      | .nx => whileG c body n b.2.1 b.2.2
      | .ct => whileG c body n b.2.1 b.2.2
      | .bk => .ok (.nx, b.2)
      | o => .ok (o, b.2)
    else .ok (.nx, ρ, a.2)
def notBad {α : Type} : R α → Bool
  | .bad => false
  | _ => true
open Classical in
noncomputable def sWhile (c : FT) (body : FS) : FS := fun ρ st => if h : ∃ n, notBad (whileG c body n ρ st) = true then whileG c body h.choose ρ st else .bad
theorem vs_while {c : Expr} {b : List Stmt} {fc : FT} {body : FS} {pos : Pos} (hp : PassesOwn (model X.prog X.w) X.A X.env X.xe) (hc : VT X W c fc) (hb : VSs X W b body) : VS X W (.While c b [] pos) (sWhile fc body) := by
  obtain ⟨tc, pc, runC⟩ := hc.runS
  obtain ⟨tb, pb, runB⟩ := hb
  refine ⟨_, ps_while hp pc pb, fun ρ st σ g D rel k => ?_⟩
  unfold sWhile at k
  split at k
  · rename_i hx
    refine ⟨fun m σ' H => ∃ ρ' st' g', g'.H = H ∧ Rel X.K ρ' st' σ' g' ∧ KS X.K W D g' (whileG fc body m ρ' st'), ⟨hx.choose, ρ, st, g, rfl, rel, k⟩, ?_⟩
    rintro m σ' H ⟨ρ', st', g', rfl, r', k'⟩
    cases m with
    | zero => exact k'.elim
    | succ m =>
      refine runC ρ' st' σ' g' _ D _ r' k' fun d st1 g1 e1 r1 k1 => ?_
      cases d with
      | true =>
        rw [if_pos rfl] at k1 ⊢
        refine ⟨fun σ2 H2 => ∃ ρ2 st2 g2, g2.H = H2 ∧ Rel X.K ρ2 st2 σ2 g2 ∧ KS X.K W D g2 (whileG fc body m ρ2 st2), fun σ2 H2 h => ⟨m, Nat.lt_succ_self m, h⟩, ?_⟩
        refine runB ρ' st1 σ' g1 _ r1 ?_
        refine KR.mono (KR.bind k1) (fun a ha => ?_) fun n s hn => hn
        obtain ⟨o, ρ3, st3⟩ := a
        cases o with
        | nx => exact fun σ3 g3 e3 r3 => ⟨ρ3, st3, g3, rfl, r3, KS.ext e3 ha⟩
        | ct => exact fun σ3 g3 e3 r3 => ⟨ρ3, st3, g3, rfl, r3, KS.ext e3 ha⟩
        | bk => exact ha
        | rt d => exact ha
        | ex n => exact ha
      | false =>
        rw [if_neg Bool.false_ne_true] at k1 ⊢
        exact k1 σ' g1 (Ext.refl g1) r1
  · exact k.elim
end
end VL

namespace VL
open PySem PySem.Spec PyProof.Rows L2

/-! ### defs -/
/-- a def's meaning -/
abbrev FM := List Vd → Store → R (Vd × Store)
/-- how a def's answer leaves it: what the def made and hands out is frozen -/
def leaveF (m : Nat) (d : Vd) (st : Store) : R (Vd × Store) := match d with
  | .p x => .ok (.p x, st.take m)
  | .loc k => if k < m then .ok (.loc k, st.take m) else frz st (.loc k) >>= fun a => .ok (.p a.1, a.2.take m)
/-- .. or becomes the caller's -/
def leaveN (m : Nat) (d : Vd) (st : Store) : R (Vd × Store) := match d with
  | .p x => .ok (.p x, st.take m)
  | .loc k => if k < m then .ok (.loc k, st.take m) else match st[k]? with
    | some ob => .ok (.loc m, st.take m ++ [ob])
    | none => .bad
def outM (lv : Nat → Vd → Store → R (Vd × Store)) (m : Nat) (a : Out × Slots × Store) : R (Vd × Store) := match a.1 with
  | .rt d => lv m d a.2.2
  | .nx => lv m (.p .none) a.2.2
  | .ex n => .exc n (a.2.2.take m)
  | _ => .bad
def R.only {α β : Type} : R α → (α → R β) → R β
  | .ok a, f => f a
  | _, _ => .bad
@[simp] theorem R.only_ok {α β : Type} (a : α) (f : α → R β) : (R.ok a).only f = f a := rfl
@[simp] theorem R.only_exc {α β : Type} (n : Str) (st : Store) (f : α → R β) : (R.exc n st).only f = .bad := rfl
@[simp] theorem R.only_bad {α β : Type} (f : α → R β) : (R.bad).only f = .bad := rfl
def entry (N n : Nat) (lv : Nat → Vd → Store → R (Vd × Store)) (f : FS) : FM := fun ds st =>
  if ds.length = n then (f (ds.map some ++ List.replicate (N - n) none) st).only (outM lv st.length) else .bad
abbrev Gh.cut (g1 : Gh) (A : List Addr) : Gh := ⟨g1.F, A, g1.H⟩
section
variable {K : PySem.W.Frag}
theorem cut_ext {g g1 : Gh} (e : Ext g g1) : Ext g (g1.cut g.A) := ⟨e.frz, ⟨[], by simp, fun a z => by simp at z⟩, e.keep, e.there, e.raw⟩
theorem cut_wd {g g1 : Gh} {st st1 : Store} (e : Ext g g1) (w : Wd K st g) (w1 : Wd K st1 g1) : Wd K (st1.take st.length) (g1.cut g.A) := by
  obtain ⟨B, hB, _⟩ := e.new
  have hl : g1.A.length = g.A.length + B.length := by rw [hB, List.length_append]
  have nd : (g.A ++ B).Nodup := hB ▸ w1.nd
  refine ⟨w1.sub, (List.nodup_append.mp nd).1, ?_, fun a ha => w1.there a (by rw [hB]; exact List.mem_append_left _ ha), fun k a ob hk ho => ?_⟩
  · show g.A.length = _
    rw [List.length_take, ← w.len, ← w1.len, hl]; omega
  · rw [List.getElem?_take] at ho
    split at ho
    · rename_i hkl
      refine w1.own k a ob ?_ ho
      rw [hB, List.getElem?_append_left (by rw [w.len]; exact hkl)]; exact hk
    · cases ho
def okM (K : PySem.W.Frag) (Q : VK) (g : Gh) (a : Vd × Store) : Prop := ∀ v g', Ext g g' → Wd K a.2 g' → HasV K g' a.1 v → Q v g'.H
def exM (K : PySem.W.Frag) (W : Str → Hp → Prop) (g : Gh) (n : Str) (st : Store) : Prop := ∀ g', Ext g g' → Wd K st g' → W n g'.H
theorem okM.goes {Q : VK} : Goes (okM K Q) := fun g g' b e h v g2 e2 => h v g2 (e.trans e2)
def Leaves (lv : Nat → Vd → Store → R (Vd × Store)) : Prop := ∀ {K : PySem.W.Frag} {W : Str → Hp → Prop} {g g1 : Gh} {st st1 : Store} {ρ : Slots} {σ : L2.St} {d : Vd} {v : V} {Q : VK}, Ext g g1 → Wd K st g → Rel K ρ st1 σ g1 → HasV K g1 d v → KR (exM K W g) (okM K Q g) (lv st.length d st1) → Q v g1.H
theorem leave_in {g g1 : Gh} {st st1 : Store} {ρ : Slots} {σ : L2.St} {k : Nat} {v : V} {Q : VK} (e : Ext g g1) (w : Wd K st g) (r : Rel K ρ st1 σ g1) (hv : HasV K g1 (.loc k) v) (hk : k < st.length) (h : okM K Q g (.loc k, st1.take st.length)) : Q v g1.H := by
  obtain ⟨a, ha, rfl⟩ := hv
  obtain ⟨B, hB, _⟩ := e.new
  refine h (.ref a) (g1.cut g.A) (cut_ext e) (cut_wd e w r.wd) ⟨a, ?_, rfl⟩
  show g.A[k]? = some a
  rw [hB, List.getElem?_append_left (by rw [w.len]; exact hk)] at ha; exact ha
theorem leaves_F : Leaves leaveF := by
  intro K W g g1 st st1 ρ σ d v Q e w r hv h
  cases d with
  | p x => exact h v (g1.cut g.A) (cut_ext e) (cut_wd e w r.wd) hv
  | loc k =>
    unfold leaveF at h
    simp only at h
    split at h
    · rename_i hk
      exact leave_in e w r hv hk h
    · obtain ⟨⟨x, st2⟩, px, k2⟩ := frz_bind h
      obtain ⟨g2, eH, e2, r2, h2⟩ := frz_ok r hv px
      rw [← eH]
      exact k2 v (g2.cut g.A) (cut_ext (e.trans e2)) (cut_wd (e.trans e2) w r2.wd) h2
theorem leaves_N : Leaves leaveN := by
  intro K W g g1 st st1 ρ σ d v Q e w r hv h
  cases d with
  | p x => exact h v (g1.cut g.A) (cut_ext e) (cut_wd e w r.wd) hv
  | loc k =>
    unfold leaveN at h
    simp only at h
    split at h
    · rename_i hk
      exact leave_in e w r hv hk h
    · rename_i hk
      obtain ⟨a, ha, rfl⟩ := hv
      obtain ⟨B, hB, nB⟩ := e.new
      cases ho : st1[k]? with
      | none => rw [ho] at h; exact h.elim
      | some ob =>
        rw [ho] at h
        have hkA : ¬ k < g.A.length := by rw [w.len]; exact hk
        have aB : a ∈ B := by
          rw [hB, List.getElem?_append_right (by omega)] at ha
          exact List.mem_of_getElem? ha
        have wc := cut_wd e w r.wd
        have ec := cut_ext e
        have an : a ∉ g.A := fun hm => by
          obtain ⟨j, hj⟩ := List.getElem?_of_mem hm
          have : g1.A[j]? = some a := by rw [hB, List.getElem?_append_left (List.getElem?_eq_some_iff.mp hj).1]; exact hj
          have := nd_ix r.wd.nd this ha
          have := (List.getElem?_eq_some_iff.mp hj).1
          omega
        have hlen : (st1.take st.length).length = g.A.length := wc.len.symm
        refine h (.ref a) ⟨g1.F, g.A ++ [a], g1.H⟩ ⟨e.frz, ⟨[a], rfl, fun b hb => by rw [List.mem_singleton.mp hb]; exact nB a aB⟩, e.keep, e.there, e.raw⟩ ⟨wc.sub, ?_, ?_, ?_, fun j b o hj hb => ?_⟩ ⟨a, ?_, rfl⟩
        · exact List.nodup_append.mpr ⟨wc.nd, by simp, fun x hx y hy => by rw [List.mem_singleton.mp hy]; exact fun z => an (z ▸ hx)⟩
        · show (g.A ++ [a]).length = _
          rw [List.length_append, List.length_append, hlen]; rfl
        · intro b hb
          rcases List.mem_append.mp hb with hb | hb
          · exact wc.there b hb
          · rw [List.mem_singleton.mp hb]; exact r.wd.there a (List.mem_of_getElem? ha)
        · by_cases hjl : j < g.A.length
          · have hj : (g.A ++ [a])[j]? = some b := hj
            rw [List.getElem?_append_left hjl] at hj
            rw [List.getElem?_append_left (by rw [hlen]; exact hjl)] at hb
            exact wc.own j b o hj hb
          · have hj : (g.A ++ [a])[j]? = some b := hj
            rw [List.getElem?_append_right (by omega)] at hj
            rw [List.getElem?_append_right (by omega), hlen] at hb
            have h0 : j - g.A.length = 0 := by
              have := (List.getElem?_eq_some_iff.mp hj).1
              simp at this; omega
            rw [h0] at hj hb
            cases hj; cases hb
            exact r.wd.own k a ob ha ho
        · show (g.A ++ [a])[st.length]? = some a
          rw [List.getElem?_append_right (by rw [w.len]; exact Nat.le_refl _), w.len, Nat.sub_self]; rfl
theorem sl_start {g : Gh} {N : List Str} {ds : List Vd} {vs : List V} (h : HasVL K g ds vs) : Sl K g (ds.map some ++ List.replicate (N.length - ds.length) none) (L2.start N vs) := by
  unfold L2.start
  refine ⟨by simp [h.1], fun i d hi => ?_⟩
  by_cases hl : i < ds.length
  · rw [List.getElem?_append_left (by simpa using hl), List.getElem?_map] at hi
    have hl2 : i < vs.length := by rw [h.1]; exact hl
    rw [List.getElem?_eq_getElem hl] at hi
    cases hi
    exact ⟨vs[i], by rw [List.getElem?_append_left (by simpa using hl2), List.getElem?_map, List.getElem?_eq_getElem hl2]; rfl, h.2 i _ _ (List.getElem?_eq_getElem hl) (List.getElem?_eq_getElem hl2)⟩
  · rw [List.getElem?_append_right (by simpa using hl)] at hi
    rw [List.getElem?_replicate] at hi
    split at hi <;> cases hi
/-- a def's promise, by its meaning; W: what an exception is wished to be -/
def spV (K : PySem.W.Frag) (W : XK → Str → Hp → Prop) (n : Nat) (m : FM) : Sp := fun vs H Q E => vs.length = n ∧ ∃ ds st g, g.H = H ∧ Wd K st g ∧ HasVL K g ds vs ∧ KR (exM K (W E) g) (okM K Q g) (m ds st)
abbrev noX : XK → Str → Hp → Prop := fun _ _ _ => False
theorem body_run {X : Cx} {W : Str → Hp → Prop} {body : List Stmt} {f : FS} {lv : Nat → Vd → Store → R (Vd × Store)} {n : Nat} {ds : List Vd} {vs : List V} {st : Store} {g : Gh} {Q : VK} (L : Leaves lv) (h : VSs X (fun n _ H => W n H) body f) (w : Wd X.K st g) (hv : HasVL X.K g ds vs)
    (k : KR (exM X.K W g) (okM X.K Q g) (entry X.N.length n lv f ds st)) : ∃ t, PSs X body t ∧ t { nx := fun _ H' => Q .non H', rt := Q } (L2.start X.N vs) g.H := by
  obtain ⟨t, pt, run⟩ := h
  refine ⟨t, pt, ?_⟩
  unfold entry at k
  split at k
  · rename_i hn
    rw [← hn] at k
    refine run _ st _ g _ ⟨w, sl_start hv⟩ ?_
    cases e0 : f (ds.map some ++ List.replicate (X.N.length - ds.length) none) st with
    | bad => rw [e0] at k; exact k.elim
    | exc n s =>
      rw [e0] at k; exact k.elim
    | ok a =>
      rw [e0] at k
      have k : KR (exM X.K W g) (okM X.K Q g) (outM lv st.length a) := k
      obtain ⟨o, ρ', st'⟩ := a
      cases o with
      | nx => exact fun σ' g' e r => L (W := W) e w r (show HasV X.K g' (.p .none) .non from .non) k
      | rt d => exact fun v σ' g' e r hd => L (W := W) e w r hd k
      | bk => exact k.elim
      | ct => exact k.elim
      | ex n => exact fun σ' g' e r => k (g'.cut g.A) (cut_ext e) (cut_wd e w r.wd)
  · exact k.elim
/-- a def that lets no exception out -/
theorem fn_ok {P : Program} {w : World} {mg : Str → Option Value} {base : Heap} {x qual : Str} {sd : Stmt} {fa : Addr} {fd : FuncData} {N ps : List Str} {k : Nat} {f : FS} {lv : Nat → Vd → Store → R (Vd × Store)} (F : Fun K x qual sd fa fd) (S : FnScope N ps (defScope sd)) (L : Leaves lv)
    (h : ∀ (cdv : Value) (A : Around) (outer : List Env) (s : Shared) (H : Hp) (E : XK), Room k (A.deeper (envOfC qual (defScope sd) s.heap.objs.size fa cdv)) → VSs (cxOf CX0 P w K mg base N qual (defScope sd) fa cdv A outer s H E).nox noW (defBody sd) f) :
    FnOk P w K mg base CX0 (k + 1) fa fd ps (spV K noX ps.length (entry N.length ps.length lv f)) := by
  refine F.ok S (fun vs H Q E hh => hh.1) (fun cdv A outer s H vs Q E hr hh => ?_)
  obtain ⟨hl, ds, st, g, rfl, w, hv, kk⟩ := hh
  exact body_run (X := (cxOf CX0 P _ K mg base N qual (defScope sd) fa cdv A outer s g.H E).nox) (W := fun _ _ => False) L (h cdv A outer s g.H E hr) w hv kk
end
section
variable {X : Cx} {W : Wish}
/-- a call of a def that lets no exception out -/
def vDef (n : Nat) (m : FM) (fa : FA) : FE := fun ρ st => fa ρ st >>= fun a => if a.1.length = n then (m a.1 a.2).only fun b => .ok b else .bad
theorem ve_def {k n : Nat} {f : Addr} {fd : FuncData} {ps : List Str} {m : FM} {fa : FA} {x : Str} {p pos : Pos} {e : Expr} {es : List Expr} (F : FnOk X.prog X.w X.K X.mg X.base CX0 k f fd ps (spV X.K noX n m)) (hr : Room k X.A) (hg : Gl X x) (hm : X.mg x = some (.ref f)) (hk : PySem.W.keepIn X.K (.ref f) = true) (hb : Binds X.K fd ps [])
    (ha : VA X W (e :: es) fa) (hdb : (x == ("__debug__" : Str)) = false := by decide) (he : starEach (e :: es) X.env = (false, eval e X.env) :: starEach es X.env := by rfl) (hpl : (backTo pos (starEach es X.env)).any (·.1) = false := by rfl) :
    VE X W (.Call (.Name x p) (e :: es) [] pos) (vDef n m fa) := by
  obtain ⟨t, pa, run⟩ := ha.run
  refine ⟨_, pe_call F hr hg hm hk hb .nil pass0 pa hdb he hpl, fun ρ st σ g Q rel k => ?_⟩
  refine run ρ st σ g _ (okE X.K ρ σ Q) _ okE.goes rel k fun ds st1 vs g1 e1 r1 h1 k1 => ?_
  rw [List.append_nil]
  simp only at k1
  split at k1
  · rename_i hn
    cases em : m ds st1 with
    | bad => rw [em] at k1; exact k1.elim
    | exc n s => rw [em] at k1; exact k1.elim
    | ok a =>
      rw [em] at k1
      refine ⟨h1.1.trans hn, ds, st1, g1, rfl, r1.wd, h1, ?_⟩
      rw [em]
      exact fun v g' e' w' hv => k1 v g' e' ⟨w', r1.sl.ext e'⟩ hv
  · exact k1.elim
end
end VL

namespace VL
open PySem PySem.Spec PyProof.Rows L2

/-! ### readings that don't hang on the context -/
def tOf (K : PySem.W.Frag) (W : Wish) (f : FE) : TE := fun σ H Q => ∃ ρ st g, g.H = H ∧ Rel K ρ st σ g ∧ KE K W ρ σ g Q (f ρ st)
def gOf (K : PySem.W.Frag) (vs : List Nat) (f : FG) : TG := fun v σ H Q => ∃ ρ st g d, g.H = H ∧ Rel K ρ st σ g ∧ HasV K g d v ∧ KR no (fun ρ' => ∀ σ', But vs σ σ' → Rel K ρ' st σ' g → Q σ' g.H) (f d ρ st)
def ttOf (K : PySem.W.Frag) (W : Wish) (f : FT) : TT := fun σ H Q => ∃ ρ st g, g.H = H ∧ Rel K ρ st σ g ∧ KR (WN K W ρ σ g) (okT K ρ σ Q g) (f ρ st)
def wiOf (K : PySem.W.Frag) (W : Wish) (f : FI) : TI := fun σ H P => ∃ ρ st g, g.H = H ∧ Rel K ρ st σ g ∧ KR (WN K W ρ σ g) (okI K ρ σ P g) (f ρ st)
section
variable {X : Cx} {W : Wish}
theorem VE.pe {e : Expr} {f : FE} (h : VE X W e f) : PE X e (tOf X.K W f) := by
  obtain ⟨t, pt, run⟩ := h
  exact ⟨fun pins s σ H Q I ⟨ρ, st, g, e, r, k⟩ => pt.run pins s σ H Q I (e ▸ run ρ st σ g Q r k)⟩
theorem VG.pg {vs : List Nat} {e : Expr} {f : FG} (h : VG X vs e f) : PG X e (gOf X.K vs f) := by
  obtain ⟨t, pt, run⟩ := h
  exact ⟨fun pins s σ H v u Q I rv ⟨ρ, st, g, d, e, r, hv, k⟩ => pt.run pins s σ H v u Q I rv (e ▸ run ρ st σ g d v Q r hv k)⟩
theorem VT.pt {e : Expr} {f : FT} (h : VT X W e f) : PT X e (ttOf X.K W f) := by
  obtain ⟨t, pt, run⟩ := h
  exact ⟨fun pins s σ H Q I ⟨ρ, st, g, e, r, k⟩ => pt.run pins s σ H Q I (e ▸ run ρ st σ g Q r k)⟩
theorem VI.pi {tg e : Expr} {f : FI} (h : VI X W tg e f) : PI X tg e (wiOf X.K W f) := by
  obtain ⟨t, pt, run⟩ := h
  exact ⟨fun pins s σ H R I ⟨ρ, st, g, e, r, k⟩ => pt.run pins s σ H R I (e ▸ run ρ st σ g R r k)⟩
/-- the tests of a clause -/
def VTs (X : Cx) (W : Wish) (cs : List Expr) (f : FT) : Prop := PTs X cs (ttOf X.K W f)
def fYes : FT := fun _ st => .ok (true, st)
theorem vts_nil : VTs X W [] fYes := ⟨fun pins s σ H Q I ⟨ρ, st, g, e, r, k⟩ => pts_nil.run pins s σ H Q I (by
  have q : Q true g.H := k g (Ext.refl g) r
  rw [e] at q; exact q)⟩
theorem vts_one {c : Expr} {f : FT} (h : VT X W c f) : VTs X W [c] f := pts_one h.pt

/-! ### list comprehensions -/
def wipeV (ρ : Slots) : List Nat → Slots
  | [] => ρ
  | v :: vs => (wipeV ρ vs).set v none
theorem Sl.setN {K : PySem.W.Frag} {g : Gh} {ρ : Slots} {σ : L2.St} (h : Sl K g ρ σ) (i : Nat) : Sl K g (ρ.set i none) (σ.set i none) := by
  refine ⟨by simp [h.1], fun j e hj => ?_⟩
  rw [List.getElem?_set] at hj
  split at hj
  · split at hj <;> cases hj
  · rename_i hij
    obtain ⟨w, h1, h2⟩ := h.2 j e hj
    exact ⟨w, by rw [List.getElem?_set_ne hij]; exact h1, h2⟩
theorem Sl.wipe {K : PySem.W.Frag} {g : Gh} {ρ : Slots} {σ : L2.St} (h : Sl K g ρ σ) : ∀ vs : List Nat, Sl K g (wipeV ρ vs) (L2.wipe σ vs)
  | [] => h
  | v :: vs => by
    unfold wipeV L2.wipe
    exact (h.wipe vs).setN v
theorem wipe_ext {a b : L2.St} : ∀ {vs : List Nat}, a.length = b.length → (∀ j, j ∉ vs → a[j]? = b[j]?) → L2.wipe a vs = L2.wipe b vs
  | vs, hl, h => by
    apply List.ext_getElem?
    intro j
    by_cases hj : j ∈ vs
    · have key : ∀ (c : L2.St) (ws : List Nat), j ∈ ws → j < c.length → (L2.wipe c ws)[j]? = some none := by
        intro c ws
        induction ws with
        | nil => intro hm _; cases hm
        | cons w ws ih =>
          intro hm hlt
          unfold L2.wipe
          by_cases e : w = j
          · subst e
            rw [List.getElem?_set_self (by rw [wipe_length]; exact hlt)]
          · rw [List.getElem?_set_ne e]
            rcases List.mem_cons.mp hm with q | q
            · exact absurd q.symm e
            · exact ih q hlt
      by_cases hlt : j < a.length
      · rw [key a vs hj hlt, key b vs hj (hl ▸ hlt)]
      · rw [List.getElem?_eq_none (by rw [wipe_length]; omega), List.getElem?_eq_none (by rw [wipe_length, ← hl]; omega)]
    · rw [wipe_out hj, wipe_out hj]; exact h j hj
theorem wipe_in {a : L2.St} {vs : List Nat} {j : Nat} (hj : j ∉ vs) : (L2.wipe a vs)[j]? = a[j]? := wipe_out hj
theorem wipe_but {σ σ2 : L2.St} {vs ws : List Nat} (h : But ws (L2.wipe σ vs) σ2) (hs : ∀ j ∈ ws, j ∈ vs) : L2.wipe σ2 vs = L2.wipe σ vs :=
  wipe_ext (by rw [h.1, wipe_length]) fun j hj => (h.2 j fun z => hj (hs j z)).trans (wipe_in hj)
open Classical in
noncomputable def lcG (s : Src) (gt : FG) (tt : FT) (fe : FE) (ρ : Slots) : List PyData → Store → R (List PyData × Store)
  | [], st => if s.Ok st then .ok ([], st) else .bad
  | d :: r, st => if s.Ok st then gt (.p d) ρ st >>= fun ρ1 => tt ρ1 st >>= fun b => if b.1 = true then fe ρ1 b.2 >>= fun a => frz a.2 a.1 >>= fun x => lcG s gt tt fe ρ r x.2 >>= fun y => .ok (x.1 :: y.1, y.2)
    else lcG s gt tt fe ρ r b.2 else .bad
noncomputable def nLc (fi : FI) (gt : FG) (tt : FT) (fe : FE) (vs : List Nat) : FN := fun ρ st => fi ρ st >>= fun a => (lcG a.1 gt tt fe (wipeV ρ vs) a.1.ds a.2).only fun b => if b.1.length ≤ LIM then .ok (.lst b.1, b.2) else .bad
theorem R.only_of {α β : Type} {ne : Str → Store → Prop} {ok : β → Prop} {r : R α} {f : α → R β} (h : KR ne ok (r.only f)) : KR no (fun a => KR ne ok (f a)) r := by
  cases r with
  | ok a => exact h
  | exc n s => exact h.elim
  | bad => exact h.elim
/-- the world behind a new list's growth -/
theorem ext_over {g1 g : Gh} (e : Ext g1 g) {D : Addr} (hD : g1.H D = none) (u : HO) : Ext g1 ⟨g.F, g.A, upd g.H D u⟩ :=
  ⟨e.frz, e.new, fun b o hb hn => by
    show upd g.H D u b = some o
    rw [upd_ne (ne_of_none hb hD)]; exact e.keep b o hb hn, fun b hb => by
    have hb : upd g.H D u b = none := hb
    by_cases q : b = D
    · rw [q]; exact hD
    · rw [upd_ne q] at hb; exact e.there b hb, e.raw⟩
theorem wd_over {K : PySem.W.Frag} {st : Store} {g : Gh} (w : Wd K st g) {D : Addr} (hF : g.F D = none) (hA : D ∉ g.A) (u : HO) : Wd K st ⟨g.F, g.A, upd g.H D u⟩ := by
  refine ⟨fun b x q => ?_, w.nd, w.len, fun a ha => ?_, fun k a ob h1 h2 => ?_⟩
  · show upd g.H D u b = some x
    have q : g.F b = some x := q
    rw [upd_ne (fun z => by rw [z, hF] at q; cases q)]; exact w.sub b x q
  · obtain ⟨x, hx⟩ := w.there a ha
    refine ⟨x, ?_⟩
    show upd g.H D u a = some x
    rw [upd_ne (fun (z : a = D) => hA (by rw [← z]; exact ha))]; exact hx
  · refine ObAt.ext (g := g) (g' := ⟨g.F, g.A, upd g.H D u⟩) (Same.refl _) id ?_ (w.own k a ob h1 h2)
    show upd g.H D u a = g.H a
    rw [upd_ne (fun (z : a = D) => hA (by rw [← z]; exact List.mem_of_getElem? h1))]
/-- THE READING of a list comprehension -/
theorem lc_read {K : PySem.W.Frag} {fi : FI} {gt : FG} {tt : FT} {fe : FE} {vs ws : List Nat} {wi : TI} (hws : ∀ j ∈ ws, j ∈ vs)
    (runI : ∀ ρ st σ g P, Rel K ρ st σ g → KR (WN K W ρ σ g) (okI K ρ σ P g) (fi ρ st) → wi σ g.H P) : RN K W (tLc wi (gOf K ws gt) (ttOf K noW tt) (tOf K noW fe) vs) (nLc fi gt tt fe vs) := by
  intro ρ st σ g Q rel k
  refine runI ρ st σ g _ rel (KR.mono (KR.bind k) (fun a ha J g1 e1 r1 o1 w1 D hD => ?_) fun n s hn => hn)
  obtain ⟨s, st1⟩ := a
  have ha : KR (WN K W ρ σ g) (okN K ρ σ Q g) ((lcG s gt tt fe (wipeV ρ vs) s.ds st1).only fun b => if b.1.length ≤ LIM then .ok (.lst b.1, b.2) else .bad) := ha
  have hF1 : g1.F D = none := r1.wd.sub.free hD
  have hA1 : D ∉ g1.A := fun hm => by
    obtain ⟨x, hx⟩ := r1.wd.there D hm
    rw [hD] at hx; cases hx
  refine ⟨fun i m H => ∃ st' g' acc xs, g'.H = H ∧ Ext g1 g' ∧ Wd K st' g' ∧ i ≤ s.ds.length ∧ m = s.ds.length - i ∧ g'.H D = some (.lst xs) ∧ g'.F D = none ∧ D ∉ g'.A ∧ HasL K g'.F acc xs ∧
      KR no (fun b => acc.length + b.1.length ≤ LIM ∧ okN K ρ σ Q g (.lst (acc ++ b.1), b.2)) (lcG s gt tt fe (wipeV ρ vs) (s.ds.drop i) st'),
    ⟨s.ds.length, st1, ⟨g1.F, g1.A, upd g1.H D (.lst [])⟩, [], [], rfl, ext_over (Ext.refl g1) hD _, wd_over r1.wd hF1 hA1 _, Nat.zero_le _, rfl, upd_same, hF1, hA1, .nil, ?_⟩, ?_⟩
  · rw [List.drop_zero]
    refine KR.mono (R.only_of ha) (fun b hb => ?_) fun _ _ z => z
    split at hb
    · rename_i hl
      exact ⟨by simpa using hl, hb⟩
    · exact hb.elim
  rintro i m H ⟨st', g', acc, xs, rfl, e', w', hi, rfl, hDH, hDF, hDA, hacc, k'⟩
  have sl' : Sl K g' ρ σ := r1.sl.ext e'
  by_cases hlt : i < s.ds.length
  · rw [List.drop_eq_getElem_cons hlt] at k'
    unfold lcG at k'
    split at k'
    · rename_i ok
      obtain ⟨go, stop, yld⟩ := w1 st' g' e' w' ok
      refine .inr ⟨go i hlt, fun H2 => ∃ st2 g2 acc2 xs2, g2.H = H2 ∧ Ext g1 g2 ∧ Wd K st2 g2 ∧ g2.H D = some (.lst xs2) ∧ g2.F D = none ∧ D ∉ g2.A ∧ HasL K g2.F acc2 xs2 ∧
          KR no (fun b => acc2.length + b.1.length ≤ LIM ∧ okN K ρ σ Q g (.lst (acc2 ++ b.1), b.2)) (lcG s gt tt fe (wipeV ρ vs) (s.ds.drop (i + 1)) st2),
        fun H2 ⟨st2, g2, acc2, xs2, q1, q2, q3, q4, q5, q6, q7, q8⟩ => ⟨s.ds.length - (i + 1), by omega, st2, g2, acc2, xs2, q1, q2, q3, hlt, rfl, q4, q5, q6, q7, q8⟩, fun x H2 hy => ?_⟩
      obtain ⟨g2, rfl, e2, w2, hx⟩ := yld i x H2 s.ds[i] (List.getElem?_eq_getElem hlt) hy
      refine ⟨wipeV ρ vs, st', g2, .p s.ds[i], rfl, ⟨w2, (sl'.ext e2).wipe vs⟩, hx, ?_⟩
      refine KR.mono (KR.bind k') (fun ρ1 h1 σ1 b1 r1' => ⟨wipe_but b1 hws, ρ1, st', g2, rfl, r1', ?_⟩) fun _ _ z => z
      refine KR.mono (KR.bind h1) (fun b hb g3 e3 r3 => ?_) fun _ _ z => z.elim
      obtain ⟨b, st3⟩ := b
      have E3 : Ext g1 g3 := (e'.trans e2).trans e3
      have E23 : Ext g' g3 := e2.trans e3
      cases b with
      | true =>
        rw [if_pos rfl]
        simp only [if_true] at hb
        refine ⟨ρ1, st3, g3, rfl, r3, KR.mono (KR.bind hb) (fun a ha v g4 e4 r4 hv => ?_) fun _ _ z => z.elim⟩
        obtain ⟨⟨d, st5⟩, px, k5⟩ := frz_bind ha
        obtain ⟨g5, eH, e5, r5, h5⟩ := frz_ok r4 hv px
        have E35 : Ext g' g5 := (E23.trans e4).trans e5
        have hD5 : g5.H D = some (.lst xs) := E35.keep D _ hDH hDA
        have hF5 : g5.F D = none := E35.raw D _ hDH hDA hDF
        have hA5 : D ∉ g5.A := E35.nin hDH hDA
        have k6 := KR.bind k5
        have len : acc.length + 1 ≤ LIM := by
          cases eq : lcG s gt tt fe (wipeV ρ vs) (List.drop (i + 1) s.ds) st5 with
          | bad => simp only [eq] at k6; exact k6.elim
          | exc n z => simp only [eq] at k6; exact k6.elim
          | ok b =>
            simp only [eq] at k6
            have := k6.1
            simp only [List.length_cons] at this
            omega
        refine ⟨xs, by rw [← eH]; exact hD5, ?_, st5, ⟨g5.F, g5.A, upd g5.H D (.lst (xs ++ [v]))⟩, acc ++ [d], xs ++ [v], by rw [eH], ext_over (e'.trans E35) hD _, wd_over r5.wd hF5 hA5 _, upd_same, hF5, hA5, (hacc.mono E35.frz).append (.singleton h5), ?_⟩
        · rw [hacc.1, lim_eq]; omega
        · refine KR.mono k6 (fun b hb => ?_) fun _ _ z => z
          have hb : acc.length + (d :: b.1).length ≤ LIM ∧ okN K ρ σ Q g (.lst (acc ++ d :: b.1), b.2) := hb
          rw [List.append_assoc, List.length_append]
          exact ⟨by have := hb.1; simp only [List.length_cons, List.length_nil] at this ⊢; omega, hb.2⟩
      | false =>
        rw [if_neg Bool.false_ne_true]
        simp only [Bool.false_eq_true, if_false] at hb
        exact ⟨st3, g3, acc, xs, rfl, E3, r3.wd, E23.keep D _ hDH hDA, E23.raw D _ hDH hDA hDF, E23.nin hDH hDA, hacc.mono E23.frz, hb⟩
    · exact k'.elim
  · have ei : i = s.ds.length := by omega
    subst ei
    rw [List.drop_length] at k'
    unfold lcG at k'
    split at k'
    · rename_i ok
      obtain ⟨go, stop, yld⟩ := w1 st' g' e' w' ok
      refine .inl ⟨stop _ (Nat.le_refl _), ?_⟩
      have k'' := k'.2
      rw [List.append_nil] at k''
      exact k'' D (.lst xs) g' (e1.trans e') ⟨w', sl'⟩ (e1.there D hD) hDH hDF hDA ⟨xs, rfl, hacc⟩
    · exact k'.elim
theorem vn_lc {elt tg iter : Expr} {ifs : List Expr} {scope : Scope} {own : List (Str × Nat)} {pos : Pos} {fi : FI} {gt : FG} {tt : FT} {fe : FE} {ws vs : List Nat} (hc : X.calm = true) (hN : X.N.Nodup) (hi : VI X W tg iter fi) (ok : BlkOk X.N X.env.scope scope own)
    (hg : ∀ (s : Shared) (H : Hp) (C : Addr) (cl : List (Str × Addr)) (fp : List Addr), VG (X.blk s H scope (compEnvC scope cl C X.env) fp) ws tg gt) (ht : ∀ (s : Shared) (H : Hp) (C : Addr) (cl : List (Str × Addr)) (fp : List Addr), VTs (X.blk s H scope (compEnvC scope cl C X.env) fp) noW ifs tt)
    (he : ∀ (s : Shared) (H : Hp) (C : Addr) (cl : List (Str × Addr)) (fp : List Addr), VE (X.blk s H scope (compEnvC scope cl C X.env) fp) noW elt fe) (hws : ∀ j ∈ ws, j ∈ vs := by decide) (hvs : own.map (·.2) = vs := by rfl) (hs : ∀ x, foldedSetIterable iter X.env x = pure x := by intro _; rfl) :
    VN X W (.ListComp elt [⟨tg, iter, ifs, 0⟩] scope pos) (nLc fi gt tt fe vs) := by
  subst hvs
  obtain ⟨wi, pi, runI⟩ := hi
  exact ⟨_, pe_lc hc hN pi ok (fun s H C cl fp => (hg s H C cl fp).pg) (tt := ttOf X.K noW tt) (fun s H C cl fp => ht s H C cl fp) (fun s H C cl fp => (he s H C cl fp).pe) hs, lc_read hws runI⟩
/-- name = [..] on one line -/
theorem vs_setLc {i : Nat} {y : Str} {py : Pos} {elt tg iter : Expr} {ifs : List Expr} {scope : Scope} {own : List (Str × Nat)} {pos spos : Pos} {fi : FI} {gt : FG} {tt : FT} {fe : FE} {ws vs : List Nat} {f : FN → FE} (hf : ∀ {t : TE} {h : FN}, RN X.K W t h → RE X.K W t (f h)) (hc : X.calm = true) (hN : X.N.Nodup) (hy : X.N[i]? = some y) (hyl : X.env.scope.names.lookup y = some .local)
    (hi : VI X W tg iter fi) (ok : BlkOk X.N X.env.scope scope own)
    (hg : ∀ (s : Shared) (H : Hp) (C : Addr) (cl : List (Str × Addr)) (fp : List Addr), VG (X.blk s H scope (compEnvC scope cl C X.env) fp) ws tg gt) (ht : ∀ (s : Shared) (H : Hp) (C : Addr) (cl : List (Str × Addr)) (fp : List Addr), VTs (X.blk s H scope (compEnvC scope cl C X.env) fp) noW ifs tt)
    (he : ∀ (s : Shared) (H : Hp) (C : Addr) (cl : List (Str × Addr)) (fp : List Addr), VE (X.blk s H scope (compEnvC scope cl C X.env) fp) noW elt fe) (hws : ∀ j ∈ ws, j ∈ vs := by decide) (hvs : own.map (·.2) = vs := by rfl) (hs : ∀ x, foldedSetIterable iter X.env x = pure x := by intro _; rfl)
    (hk : X.env.scope.kind = .function := by rfl) (hl : (py.line == pos.line) = true := by rfl) (ha : (scope.names.any fun (n, k) => n == y && (k == .local || k == .cell)) = false := by decide) :
    VS X W (.Assign [.Name y py] (.ListComp elt [⟨tg, iter, ifs, 0⟩] scope pos) spos) (sSet i (f (nLc fi gt tt fe vs))) := by
  subst hvs
  obtain ⟨wi, pi, runI⟩ := hi
  exact ⟨_, ps_setLc hc hN hy hyl (sw_true hk hyl hl ha) pi ok (fun s H C cl fp => (hg s H C cl fp).pg) (tt := ttOf X.K noW tt) (fun s H C cl fp => ht s H C cl fp) (fun s H C cl fp => (he s H C cl fp).pe) hs, fun ρ st σ g D rel k => rs_set (hf (lc_read hws runI)) ρ st σ g D rel k⟩
end
end VL

namespace VL
open PySem PySem.Spec PyProof.Rows L2

/-! ### dicts as lists of pairs -/
open Classical in
noncomputable def getP (ds : List (PyData × PyData)) (d : PyData) : Option PyData := match ds with
  | [] => none
  | p :: r => if p.1 = d then some p.2 else getP r d
open Classical in
noncomputable def setP (ds : List (PyData × PyData)) (d v : PyData) : List (PyData × PyData) := ds.map fun p => if p.1 = d then (p.1, v) else p
open Classical in
noncomputable def putP (ds : List (PyData × PyData)) (d v : PyData) : List (PyData × PyData) :=
  if ∃ p ∈ ds, p.1 = d then setP ds d v else ds ++ [(d, v)]
theorem getP_none {ds : List (PyData × PyData)} {d : PyData} : getP ds d = none ↔ ¬ ∃ p ∈ ds, p.1 = d := by
  induction ds with
  | nil => simp [getP]
  | cons p r ih =>
    rw [getP]
    split
    · rename_i h; simp [h]
    · rename_i h; rw [ih]; simp [h]
open Classical in
theorem getP_append {ds : List (PyData × PyData)} {d e v : PyData} : getP (ds ++ [(d, v)]) e = if (getP ds e).isSome then getP ds e else if d = e then some v else none := by
  induction ds with
  | nil => simp [getP]
  | cons p r ih =>
    rw [List.cons_append, getP, getP]
    split
    · rfl
    · exact ih
open Classical in
theorem getP_map {ds : List (PyData × PyData)} {d e v : PyData} : getP (setP ds d v) e = if d = e then (getP ds e).map (fun _ => v) else getP ds e := by
  induction ds with
  | nil => simp [getP, setP]
  | cons p r ih =>
    unfold setP at ih ⊢
    rw [List.map_cons, getP, getP]
    by_cases h1 : p.1 = d
    · by_cases h2 : d = e
      · simp [h1, h2]
      · have : ¬ p.1 = e := fun z => h2 (h1 ▸ z)
        rw [if_neg h2] at ih ⊢
        rw [if_pos h1, if_neg this, if_neg this, ih]
    · rw [if_neg h1]
      by_cases h2 : p.1 = e
      · have : ¬ d = e := fun z => h1 (h2.trans z.symm)
        rw [if_pos h2, if_neg this, if_pos h2]
      · rw [if_neg h2, if_neg h2]; exact ih
open Classical in
theorem getP_put {ds : List (PyData × PyData)} {d e v : PyData} : getP (putP ds d v) e = if d = e then some v else getP ds e := by
  unfold putP
  split
  · rename_i h
    rw [getP_map]
    split
    · rename_i hde
      subst hde
      cases hg : getP ds d with
      | none => exact absurd h (getP_none.mp hg)
      | some x => rfl
    · rfl
  · rename_i h
    rw [getP_append]
    have := getP_none.mpr h
    by_cases hde : d = e
    · subst hde
      rw [this, if_pos rfl]; simp
    · rw [if_neg hde]
      cases getP ds e <;> simp [hde]
theorem putP_len {ds : List (PyData × PyData)} {d v : PyData} : (putP ds d v).length ≤ ds.length + 1 := by
  unfold putP setP
  split <;> simp
/-- entries by entries; f: how keys stand -/
def D2 {κ : Type} (K : PySem.W.Frag) (F : Hp) (f : κ → PyData) (ds : List (PyData × PyData)) (xs : List (κ × V)) : Prop := ds.map (·.1) = xs.map (fun p => f p.1) ∧ HasL K F (ds.map (·.2)) (xs.map (·.2))
section
variable {κ : Type} {K : PySem.W.Frag} {F : Hp} {f : κ → PyData}
theorem D2.nil : D2 K F f [] [] := ⟨rfl, .nil⟩
theorem D2.cons {p : PyData × PyData} {q : κ × V} {ds : List (PyData × PyData)} {xs : List (κ × V)} (h1 : p.1 = f q.1) (h2 : Has K F p.2 q.2) (h : D2 K F f ds xs) : D2 K F f (p :: ds) (q :: xs) :=
  ⟨by rw [List.map_cons, List.map_cons, h1, h.1], by rw [List.map_cons, List.map_cons]; exact .cons h2 h.2⟩
theorem D2.inv {q : κ × V} {ds : List (PyData × PyData)} {xs : List (κ × V)} (h : D2 K F f ds (q :: xs)) : ∃ p r, ds = p :: r ∧ p.1 = f q.1 ∧ Has K F p.2 q.2 ∧ D2 K F f r xs := by
  cases ds with
  | nil => exact absurd h.1 (by simp)
  | cons p r =>
    have h1 := h.1
    rw [List.map_cons, List.map_cons] at h1
    injection h1 with a b
    have h2 := h.2
    rw [List.map_cons, List.map_cons] at h2
    obtain ⟨v, z, e, hv, hz⟩ := h2.uncons
    injection e with e1 e2
    exact ⟨p, r, rfl, a, e1 ▸ hv, b, e2 ▸ hz⟩
theorem D2.nil_inv {ds : List (PyData × PyData)} (h : D2 (κ := κ) K F f ds []) : ds = [] := by
  cases ds with
  | nil => rfl
  | cons p r => exact absurd h.1 (by simp)
theorem D2.len {ds : List (PyData × PyData)} {xs : List (κ × V)} (h : D2 K F f ds xs) : xs.length = ds.length := by
  have := congrArg List.length h.1
  simpa using this.symm
theorem D2.get [DecidableEq κ] (hf : ∀ a b, f a = f b → a = b) (k : κ) : ∀ {xs : List (κ × V)} {ds : List (PyData × PyData)}, D2 K F f ds xs → match getP ds (f k) with
    | some d => ∃ v, valV xs k = some v ∧ Has K F d v
    | none => valV xs k = none
  | [], ds, h => by rw [h.nil_inv]; rfl
  | q :: xs, ds, h => by
    obtain ⟨p, r, rfl, h1, h2, h3⟩ := h.inv
    have ih := h3.get hf k
    rw [getP]
    by_cases hk : q.1 = k
    · rw [if_pos (by rw [h1, hk])]
      exact ⟨q.2, valV_pos hk, h2⟩
    · rw [if_neg (fun z => hk (hf _ _ (h1 ▸ z))), valV_neg hk]
      exact ih
theorem D2.mapP [DecidableEq κ] (hf : ∀ a b, f a = f b → a = b) (k : κ) {d : PyData} {v : V} (hv : Has K F d v) : ∀ {xs : List (κ × V)} {ds : List (PyData × PyData)}, D2 K F f ds xs →
    D2 K F f (setP ds (f k) d) (xs.map fun kv => if kv.1 = k then (kv.1, v) else kv)
  | [], ds, h => by rw [h.nil_inv]; exact .nil
  | q :: xs, ds, h => by
    obtain ⟨p, r, rfl, h1, h2, h3⟩ := h.inv
    have ih := h3.mapP hf k hv
    unfold setP at ih ⊢
    rw [List.map_cons, List.map_cons]
    by_cases hk : q.1 = k
    · rw [if_pos (by rw [h1, hk]), if_pos hk]
      exact .cons h1 hv ih
    · rw [if_neg (fun z => hk (hf _ _ (h1 ▸ z))), if_neg hk]
      exact .cons h1 h2 ih
theorem D2.snoc {p : PyData × PyData} {q : κ × V} (h1 : p.1 = f q.1) (h2 : Has K F p.2 q.2) : ∀ {xs : List (κ × V)} {ds : List (PyData × PyData)}, D2 K F f ds xs → D2 K F f (ds ++ [p]) (xs ++ [q])
  | [], ds, h => by rw [h.nil_inv]; exact .cons h1 h2 .nil
  | _ :: xs, ds, h => by
    obtain ⟨p', r, rfl, a, b, c⟩ := h.inv
    exact .cons a b (c.snoc h1 h2)
theorem D2.put [DecidableEq κ] (hf : ∀ a b, f a = f b → a = b) (k : κ) {d : PyData} {v : V} (hv : Has K F d v) {xs : List (κ × V)} {ds : List (PyData × PyData)} (h : D2 K F f ds xs) : D2 K F f (putP ds (f k) d) (putK xs k v) := by
  have hg := h.get hf k
  unfold putP putK
  rw [valV_any]
  split
  · rename_i hx
    cases e : getP ds (f k) with
    | none => exact absurd hx (getP_none.mp e)
    | some y =>
      rw [e] at hg
      obtain ⟨w, hw, _⟩ := hg
      rw [hw, if_pos (by rfl)]
      exact h.mapP hf k hv
  · rename_i hx
    rw [getP_none.mpr hx] at hg
    have hg : valV xs k = none := hg
    rw [hg]
    exact D2.snoc (p := (f k, d)) (q := (k, v)) rfl hv h
theorem D2.mono {F' : Hp} (e : Same F F') {xs : List (κ × V)} {ds : List (PyData × PyData)} (h : D2 K F f ds xs) : D2 K F' f ds xs := ⟨h.1, h.2.mono e⟩
end
theorem keyP_inj (a b : Key) (h : keyP a = keyP b) : a = b := by
  cases a <;> cases b <;> simp only [keyP] at h
  · injection h with h; rw [h]
  · cases h
  · cases h
  · injection h with h; rw [h]
theorem keyT_inj : ∀ (a b : List Key), keyT a = keyT b → a = b := by
  intro a b h
  unfold keyT at h
  injection h with h
  induction a generalizing b with
  | nil => cases b with
    | nil => rfl
    | cons => simp at h
  | cons x r ih => cases b with
    | nil => simp at h
    | cons y s =>
      rw [List.map_cons, List.map_cons] at h
      injection h with h1 h2
      rw [keyP_inj _ _ h1, ih s h2]

/-- a key as data: what kind of dict takes it -/
def isKey : PyData → Bool
  | .int _ => true
  | .str _ => true
  | _ => false
def keyB : Bool → PyData → Bool
  | false, d => isKey d
  | true, .tuple l => l.all isKey
  | true, _ => false
theorem key_of1 {d : PyData} (h : isKey d = true) : ∃ k, d = keyP k := by
  cases d with
  | int i => exact ⟨.inl i, rfl⟩
  | str x => exact ⟨.inr x, rfl⟩
  | _ => cases h
theorem keys_of : ∀ {l : List PyData}, l.all isKey = true → ∃ ks : List Key, l = ks.map keyP
  | [], _ => ⟨[], rfl⟩
  | d :: r, h => by
    rw [List.all_cons, Bool.and_eq_true] at h
    obtain ⟨k, rfl⟩ := key_of1 h.1
    obtain ⟨ks, rfl⟩ := keys_of h.2
    exact ⟨k :: ks, rfl⟩
section
variable {K : PySem.W.Frag}
theorem has_key {F : Hp} {k : Key} {v : V} (h : Has K F (keyP k) v) : v = kV k := by
  cases k with
  | inl i => exact h.int_inv
  | inr x => exact h.str_inv
theorem hasL_keys {F : Hp} : ∀ {ks : List Key} {xs : List V}, HasL K F (ks.map keyP) xs → xs = ks.map kV
  | [], xs, h => h.nil_inv
  | k :: ks, xs, h => by
    obtain ⟨v, r, rfl, h1, h2⟩ := h.uncons
    rw [List.map_cons, has_key h1, hasL_keys h2]
theorem has_tkey {F : Hp} {ks : List Key} {v : V} (h : Has K F (keyT ks) v) : ∃ b, v = .ref b ∧ F b = some (.tup (ks.map kV)) := by
  obtain ⟨a, xs, rfl, s, l⟩ := Has.tup_invX h
  exact ⟨a, rfl, by rw [s, hasL_keys l]⟩

/-- the entries of a dict in flight; the kind where one can tell -/
def kindOf : List (PyData × PyData) → Option Bool
  | [] => none
  | (.tuple _, _) :: _ => some true
  | _ => some false
def dctOf (st : Store) : Vd → Option (Option Bool × List (PyData × PyData))
  | .p (.dict ds) => some (kindOf ds, ds)
  | .p _ => none
  | .loc k => match st[k]? with
    | some (.dct t ds) => some (some t, ds)
    | some (.fz (.dict ds)) => some (kindOf ds, ds)
    | _ => none
def DctRd (K : PySem.W.Frag) (F H : Hp) (a : Addr) (ds : List (PyData × PyData)) : Bool → Prop
  | false => ∃ xs, Rd H a (.dK xs) ∧ D2 K F keyP ds xs
  | true => ∃ xs, Rd H a (.dT xs) ∧ D2 K F keyT ds xs
theorem has_dctRd {st : Store} {g : Gh} (w : Wd K st g) {ds : List (PyData × PyData)} {v : V} (h : Has K g.F (.dict ds) v) : ∃ a, v = .ref a ∧ (DctRd K g.F g.H a ds false ∨ DctRd K g.F g.H a ds true) ∧ ∀ t, kindOf ds = some t → DctRd K g.F g.H a ds t := by
  cases h with
  | @dK a xs _ s l q =>
    have d2 : D2 K g.F keyP ds xs := ⟨l, hasL_map2 (by have := congrArg List.length l; simpa using this.symm) q⟩
    refine ⟨a, rfl, .inl ⟨xs, rd_mono w.sub s, d2⟩, fun t ht => ?_⟩
    cases xs with
    | nil => rw [d2.nil_inv] at ht; cases ht
    | cons x r =>
      obtain ⟨p, r', rfl, h1, _, _⟩ := d2.inv
      have : t = false := by
        obtain ⟨p1, p2⟩ := p
        simp only at h1
        subst h1
        cases hx : x.1 <;> simp only [hx, keyP, kindOf] at ht <;> cases ht <;> rfl
      subst this
      exact ⟨_, rd_mono w.sub s, d2⟩
  | @dT a xs _ s l q =>
    have d2 : D2 K g.F keyT ds xs := ⟨l, hasL_map2 (by have := congrArg List.length l; simpa using this.symm) q⟩
    refine ⟨a, rfl, .inr ⟨xs, rd_mono w.sub s, d2⟩, fun t ht => ?_⟩
    cases xs with
    | nil => rw [d2.nil_inv] at ht; cases ht
    | cons x r =>
      obtain ⟨p, r', rfl, h1, _, _⟩ := d2.inv
      have : t = true := by
        obtain ⟨p1, p2⟩ := p
        simp only at h1
        subst h1
        simp only [keyT, kindOf] at ht
        cases ht; rfl
      subst this
      exact ⟨_, rd_mono w.sub s, d2⟩
theorem dctRd_at {g : Gh} {a : Addr} {t : Bool} {ds : List (PyData × PyData)} (h : DctAt K g.F ds (g.H a) t) : DctRd K g.F g.H a ds t := by
  cases t with
  | false => obtain ⟨xs, q1, q2, q3⟩ := h; exact ⟨xs, .inl q1, q2, q3⟩
  | true => obtain ⟨xs, q1, q2, q3⟩ := h; exact ⟨xs, .inl q1, q2, q3⟩
theorem dctOf_rd {st : Store} {g : Gh} (w : Wd K st g) {x : Vd} {v : V} (h : HasV K g x v) {t : Option Bool} {ds : List (PyData × PyData)} (e : dctOf st x = some (t, ds)) : ∃ a, v = .ref a ∧ (DctRd K g.F g.H a ds false ∨ DctRd K g.F g.H a ds true) ∧ ∀ b, t = some b → DctRd K g.F g.H a ds b := by
  cases x with
  | p d =>
    cases d with
    | dict l =>
      cases e
      exact has_dctRd w h
    | _ => cases e
  | loc k =>
    obtain ⟨a, ha, rfl⟩ := h
    simp only [dctOf] at e
    cases hk : st[k]? with
    | none => rw [hk] at e; cases e
    | some ob =>
      have o := w.own k a ob ha hk
      rw [hk] at e
      cases ob with
      | lst l => cases e
      | dct t' l =>
        cases e
        have := dctRd_at o.2
        refine ⟨a, rfl, ?_, fun b hb => by cases hb; exact this⟩
        cases t'
        · exact .inl this
        · exact .inr this
      | fz d =>
        cases d with
        | dict l =>
          cases e
          exact has_dctRd w o
        | _ => cases e
/-- a look-up -/
theorem dget_of {st : Store} {g : Gh} (w : Wd K st g) {a : Addr} {t : Bool} {ds : List (PyData × PyData)} (h : DctRd K g.F g.H a ds t) {k : PyData} (hk : keyB t k = true) {u : V} (hu : Has K g.F k u) : ∃ o, DGet g.H a u o ∧ match getP ds k with
    | some d => ∃ v, o = some v ∧ Has K g.F d v
    | none => o = none := by
  cases t with
  | false =>
    obtain ⟨xs, r, d2⟩ := h
    obtain ⟨k', rfl⟩ := key_of1 (d := k) hk
    have hg := d2.get keyP_inj k'
    cases has_key hu
    exact ⟨valV xs k', .inl ⟨xs, k', r, rfl, rfl⟩, hg⟩
  | true =>
    obtain ⟨xs, r, d2⟩ := h
    cases k with
    | tuple l =>
      obtain ⟨ks, rfl⟩ := keys_of (l := l) hk
      obtain ⟨b, rfl, hb⟩ := has_tkey (ks := ks) hu
      have hg := d2.get keyT_inj ks
      exact ⟨valV xs ks, .inr ⟨xs, ks, b, r, rfl, w.sub _ _ hb, rfl⟩, hg⟩
    | _ => cases hk
end
section
variable {X : Cx} {W : Wish}
/-! ### operations upon values in flight -/
def OpD (X : Cx) (W : Wish) (r : R2) (o : Store → Vd → Vd → R PyData) : Prop := ∀ (ρ : Slots) (st : Store) (σ : L2.St) (g : Gh) (x y : Vd) (v u : V) (Q : VK), Rel X.K ρ st σ g → HasV X.K g x v → HasV X.K g y u →
    KR (WN X.K W ρ σ g) (okE X.K ρ σ Q g) (o st x y >>= fun d => .ok (.p d, st)) → r v u g.H Q
def vBinD (o : Store → Vd → Vd → R PyData) (f h : FE) : FE := fun ρ st => f ρ st >>= fun a => h ρ a.2 >>= fun b => o b.2 a.1 b.1 >>= fun d => .ok (.p d, b.2)
theorem binD_run {r : R2} {o : Store → Vd → Vd → R PyData} {a b : Expr} {f h : FE} (ho : OpD X W r o) (ha : VE X W a f) (hb : VE X W b h) :
    ∃ ta tb, PE X a ta ∧ PE X b tb ∧ ∀ ρ st σ g Q, Rel X.K ρ st σ g → KE X.K W ρ σ g Q (vBinD o f h ρ st) → tOp r ta tb σ g.H Q := by
  obtain ⟨ta, pa, ra⟩ := ha.run
  obtain ⟨tb, pb, rb⟩ := hb.run
  refine ⟨ta, tb, pa, pb, fun ρ st σ g Q rel k => ?_⟩
  refine ra ρ st σ g _ (okE X.K ρ σ Q) _ okE.goes rel k fun d1 st1 v1 g1 e1 r1 h1 k1 => ?_
  exact rb ρ st1 σ g1 _ (okE X.K ρ σ Q) _ okE.goes r1 k1 fun d2 st2 v2 g2 e2 r2 h2 k2 => ho ρ st2 σ g2 d1 d2 v1 v2 Q r2 (h1.ext e2) h2 k2
theorem opR_or {f : Value → Value → Sem Value} {r r' : R2} (h : OpR X f r) (h' : OpR X f r') : OpR X f (fun x y H Q => r x y H Q ∨ r' x y H Q) := by
  intro pins s σ H x y v u Q I rx ry q
  rcases q with q | q
  · exact h pins s σ H x y v u Q I rx ry q
  · exact h' pins s σ H x y v u Q I rx ry q
def rDIn (neg : Bool) : R2 := fun y x H Q => ∃ a o, x = .ref a ∧ DGet H a y o ∧ Q (.bl (o.isSome != neg)) H
theorem op_din (hu : X.A.units + 65 < cLine) : OpR X (compareOp .In) (rDIn false) := by
  intro pins s σ H y x v u Q I ry rx h
  obtain ⟨a, o, rfl, g, q⟩ := h
  cases (show u = Value.ref a from rx)
  refine d_in (Nat.lt_of_le_of_lt (Nat.add_le_add_left (by decide : 1 ≤ 65) _) hu) I g ry fun s' I' => ⟨_, H, I', ?_, q⟩
  show Value.bool o.isSome = Value.bool (o.isSome != false)
  cases o <;> rfl
theorem op_dnotin (hu : X.A.units + 65 < cLine) : OpR X (compareOp .NotIn) (rDIn true) := by
  intro pins s σ H y x v u Q I ry rx h
  obtain ⟨a, o, rfl, g, q⟩ := h
  cases (show u = Value.ref a from rx)
  refine d_notIn (Nat.lt_of_le_of_lt (Nat.add_le_add_left (by decide : 1 ≤ 65) _) hu) I g ry fun s' I' => ⟨_, H, I', ?_, q⟩
  show Value.bool (!o.isSome) = Value.bool (o.isSome != true)
  cases o <;> rfl
/-- x in c, c of any kind -/
noncomputable def inD (neg : Bool) (st : Store) (x c : Vd) : R PyData := match dctOf st c with
  | some (t, ds) => peek st x >>= fun k => match t with
    | some t => if keyB t k = true then .ok (.bool ((getP ds k).isSome != neg)) else .bad
    | none => .bad
  | none => peek st x >>= fun a => peek st c >>= fun b => if neg = true then notInP a b else inP a b
theorem pk_key {st : Store} {g : Gh} {k : PyData} {t : Bool} {v : V} (hk : keyB t k = true) (h : Pk X.K g k v) : Has X.K g.F k v := by
  cases k with
  | list _ => cases t <;> cases hk
  | dict _ => cases t <;> cases hk
  | _ => exact h
theorem opD_in (hu : X.A.units + 65 < cLine) (neg : Bool) {r : R2} (h : ∀ (ρ : Slots) (st : Store) (σ : L2.St) (g : Gh) (x y : PyData) (v u : V) (Q : VK), Rel X.K ρ st σ g → Pk X.K g x v → Pk X.K g y u →
    KR (WN X.K W ρ σ g) (okE X.K ρ σ Q g) ((if neg = true then notInP x y else inP x y) >>= fun d => .ok (.p d, st)) → r v u g.H Q) : OpD X W (fun x y H Q => r x y H Q ∨ rDIn neg x y H Q) (inD neg) := by
  intro ρ st σ g x y v u Q rel hx hy k
  unfold inD at k
  cases ed : dctOf st y with
  | none =>
    simp only [ed] at k
    cases p1 : peek st x with
    | bad => simp only [p1] at k; exact k.elim
    | exc n s => exact (peek_exc p1).elim
    | ok a =>
      cases p2 : peek st y with
      | bad => simp only [p1, p2] at k; exact k.elim
      | exc n s => exact (peek_exc p2).elim
      | ok b =>
        simp only [p1, p2] at k
        exact .inl (h ρ st σ g a b v u Q rel (pk_of rel.wd hx p1) (pk_of rel.wd hy p2) k)
  | some td =>
    obtain ⟨t, ds⟩ := td
    simp only [ed] at k
    cases p1 : peek st x with
    | bad => simp only [p1] at k; exact k.elim
    | exc n s => exact (peek_exc p1).elim
    | ok a =>
      simp only [p1] at k
      cases t with
      | none => exact k.elim
      | some t =>
        simp only [R.ok_bind] at k
        split at k
        · rename_i hk
          obtain ⟨b, rfl, _, hd⟩ := dctOf_rd rel.wd hy ed
          obtain ⟨o, hg, ho⟩ := dget_of rel.wd (hd t rfl) hk (pk_key (st := st) hk (pk_of rel.wd hx p1))
          refine .inr ⟨b, o, rfl, hg, ?_⟩
          have e : (getP ds a).isSome = o.isSome := by
            cases eg : getP ds a with
            | none => rw [eg] at ho; have ho : o = none := ho; rw [ho]; rfl
            | some d => rw [eg] at ho; obtain ⟨v, e, _⟩ := ho; rw [e]; rfl
          rw [← e]
          exact okP_fin rel (.bl _) k
        · exact k.elim
theorem ve_in {a b : Expr} {f h : FE} {pos : Pos} (hu : X.A.units + 65 < cLine) (ha : VE X W a f) (hb : VE X W b h) (hm : behindInMarks .In b = false := by rfl) : VE X W (.Compare a [.In] [b] pos) (vBinD (inD false) f h) := by
  obtain ⟨r, h1, h2⟩ := ov_in (W := W) hu
  obtain ⟨ta, tb, pa, pb, k⟩ := binD_run (opD_in hu false fun ρ st σ g x y v u Q rel hx hy k => h2 ρ st σ g x y v u Q rel hx hy (by simpa using k)) ha hb
  exact ⟨_, pe_cmpR (opR_or h1 (op_din hu)) pa pb hm, k⟩
theorem ve_notin {a b : Expr} {f h : FE} {pos : Pos} (hu : X.A.units + 65 < cLine) (ha : VE X W a f) (hb : VE X W b h) (hm : behindInMarks .NotIn b = false := by rfl) : VE X W (.Compare a [.NotIn] [b] pos) (vBinD (inD true) f h) := by
  obtain ⟨r, h1, h2⟩ := ov_notIn (W := W) hu
  obtain ⟨ta, tb, pa, pb, k⟩ := binD_run (opD_in hu true fun ρ st σ g x y v u Q rel hx hy k => h2 ρ st σ g x y v u Q rel hx hy (by simpa using k)) ha hb
  exact ⟨_, pe_cmpR (opR_or h1 (op_dnotin hu)) pa pb hm, k⟩
theorem vt_asB {op : CmpOp} {r : R2} {a b : Expr} {ta tb : TE} {f : FE} {pos : Pos} (hr : OpR X (compareOp op) r) (pa : PE X a ta) (pb : PE X b tb) (hm : behindInMarks op b = false) (k : ∀ ρ st σ g Q, Rel X.K ρ st σ g → KE X.K W ρ σ g Q (f ρ st) → tOp r ta tb σ g.H Q) : VT X W (.Compare a [op] [b] pos) (asB f) := by
  refine ⟨_, pt_cmpR hr pa pb hm, fun ρ st σ g Q rel kr => k ρ st σ g _ rel ?_⟩
  refine KR.mono (KR.bind kr) (fun z hz v g' e r' hv => ?_) fun n s hn => hn
  obtain ⟨d, st'⟩ := z
  cases d with
  | loc _ => exact hz.elim
  | p d =>
    cases d with
    | bool b => exact ⟨b, hv.bl_inv, hz g' e r'⟩
    | _ => exact hz.elim
theorem vt_in {a b : Expr} {f h : FE} {pos : Pos} (hu : X.A.units + 65 < cLine) (ha : VE X W a f) (hb : VE X W b h) (hm : behindInMarks .In b = false := by rfl) : VT X W (.Compare a [.In] [b] pos) (asB (vBinD (inD false) f h)) := by
  obtain ⟨r, h1, h2⟩ := ov_in (W := W) hu
  obtain ⟨ta, tb, pa, pb, k⟩ := binD_run (opD_in hu false fun ρ st σ g x y v u Q rel hx hy k => h2 ρ st σ g x y v u Q rel hx hy (by simpa using k)) ha hb
  exact vt_asB (opR_or h1 (op_din hu)) pa pb hm k
theorem vt_notin {a b : Expr} {f h : FE} {pos : Pos} (hu : X.A.units + 65 < cLine) (ha : VE X W a f) (hb : VE X W b h) (hm : behindInMarks .NotIn b = false := by rfl) : VT X W (.Compare a [.NotIn] [b] pos) (asB (vBinD (inD true) f h)) := by
  obtain ⟨r, h1, h2⟩ := ov_notIn (W := W) hu
  obtain ⟨ta, tb, pa, pb, k⟩ := binD_run (opD_in hu true fun ρ st σ g x y v u Q rel hx hy k => h2 ρ st σ g x y v u Q rel hx hy (by simpa using k)) ha hb
  exact vt_asB (opR_or h1 (op_dnotin hu)) pa pb hm k

/-! ### c[i], c of any kind -/
def rDGet : R2 := fun x y H Q => ∃ a v, x = .ref a ∧ DGet H a y (some v) ∧ Q v H
theorem ix_dict (hu : X.A.units + 65 < cLine) : IxR X rDGet := by
  intro value slice pins s σ H x y v u Q I rx ry h hs
  obtain ⟨a, w, rfl, g, q⟩ := h
  cases (show v = Value.ref a from rx)
  have hT := dict_typeIs I g
  unfold subscriptTail
  refine wpAny_bind ?_
  rw [getitemInPython_of_ne hT.not_modules]
  refine wpAny_bind (wpAny_specialOf hT PySem.F.slot_dict_getitem.lookup ?_)
  have fin : wpAny (model X.prog X.w) X.A (subscripted slice false (.ref a) u) (fun r s₃ => wpAny (model X.prog X.w) X.A (letTemporaryGo value (.ref a) r >>= fun _ => pure r) (EP X pins σ Q) X.xe s₃) X.xe s := by
    rw [hs]
    refine wpAny_operating (d_getItem (Nat.lt_of_le_of_lt (Nat.add_le_add_left (by decide : 1 ≤ 65) _) hu) I g ry fun w' s3 I3 rw' => wpAny_bind (wpAny_letTemporaryGo (wpAny_pure ⟨w, H, I3, rw', q⟩)))
  first
    | exact wpAny_pure (wpAny_bind fin)
    | exact wpAny_bind (wpAny_pure (wpAny_bind fin))
    | exact wpAny_bind fin
noncomputable def ixD (st : Store) (x i : Vd) : R PyData := match dctOf st x with
  | some (some t, ds) => peek st i >>= fun k => if keyB t k = true then optR (getP ds k) else .bad
  | some (none, _) => .bad
  | none => peek st x >>= fun a => peek st i >>= fun b => idxP a b
theorem opD_ix : ∃ r, IxR X r ∧ OpD X W (fun x y H Q => r x y H Q ∨ rDGet x y H Q) ixD := by
  obtain ⟨r, h1, h2⟩ := ix_seqV (X := X) (W := W)
  refine ⟨r, h1, ?_⟩
  intro ρ st σ g x y v u Q rel hx hy k
  unfold ixD at k
  cases ed : dctOf st x with
  | none =>
    simp only [ed] at k
    cases p1 : peek st x with
    | bad => simp only [p1] at k; exact k.elim
    | exc n s => exact (peek_exc p1).elim
    | ok a =>
      cases p2 : peek st y with
      | bad => simp only [p1, p2] at k; exact k.elim
      | exc n s => exact (peek_exc p2).elim
      | ok b =>
        simp only [p1, p2] at k
        exact .inl (h2 ρ st σ g a b v u Q rel (pk_of rel.wd hx p1) (pk_of rel.wd hy p2) k)
  | some td =>
    obtain ⟨t, ds⟩ := td
    cases t with
    | none => simp only [ed] at k; exact k.elim
    | some t =>
      simp only [ed] at k
      cases p1 : peek st y with
      | bad => simp only [p1] at k; exact k.elim
      | exc n s => exact (peek_exc p1).elim
      | ok a =>
        simp only [p1, R.ok_bind] at k
        split at k
        · rename_i hk
          obtain ⟨b, rfl, _, hd⟩ := dctOf_rd rel.wd hx ed
          obtain ⟨o, hg, ho⟩ := dget_of rel.wd (hd t rfl) hk (pk_key (st := st) hk (pk_of rel.wd hy p1))
          cases eg : getP ds a with
          | none => rw [eg] at k; exact k.elim
          | some d =>
            rw [eg] at ho k
            obtain ⟨w, rfl, hw⟩ := ho
            exact .inr ⟨b, w, rfl, hg, okP_fin rel hw k⟩
        · exact k.elim
theorem ve_sub {a b : Expr} {f h : FE} {pos : Pos} (hu : X.A.units + 65 < cLine) (ha : VE X W a f) (hb : VE X W b h) (hs : PlainIx b := by intro _ _; rfl) : VE X W (.Subscript a b pos) (vBinD ixD f h) := by
  obtain ⟨r, h1, h2⟩ := opD_ix (X := X) (W := W)
  obtain ⟨ta, tb, pa, pb, k⟩ := binD_run h2 ha hb
  exact ⟨_, pe_ix (h1.or (ix_dict hu)) pa pb hs, k⟩
end
end VL

namespace VL
open PySem PySem.Spec PyProof.Rows L2

/-! ### an owned object changes -/
section
variable {K : PySem.W.Frag}
theorem ext_mut {g : Gh} {k : Nat} {a : Addr} (ha : g.A[k]? = some a) (o : HO) : Ext g ⟨g.F, g.A, upd g.H a o⟩ :=
  ⟨Same.refl _, ⟨[], by simp, fun a z => by simp at z⟩, fun b x e hn => by
    show upd g.H a o b = some x
    rw [upd_ne (fun (z : b = a) => hn (by rw [z]; exact List.mem_of_getElem? ha))]; exact e, fun b e => by
    have e : upd g.H a o b = none := e
    by_cases hb : b = a
    · rw [hb, upd_same] at e; cases e
    · rw [upd_ne hb] at e; exact e, fun _ _ _ _ hf => hf⟩
theorem wd_mut {st : Store} {g : Gh} (w : Wd K st g) {k : Nat} {a : Addr} (ha : g.A[k]? = some a) (hF : g.F a = none) {ob : Ob} {o : HO} (hn : NewAt K g.F ob o) : Wd K (st.set k ob) ⟨g.F, g.A, upd g.H a o⟩ := by
  refine ⟨fun b x q => ?_, w.nd, by rw [List.length_set]; exact w.len, fun b hb => ?_, fun j b ob' hj hb => ?_⟩
  · show upd g.H a o b = some x
    have q : g.F b = some x := q
    rw [upd_ne (fun z => by rw [z, hF] at q; cases q)]; exact w.sub b x q
  · by_cases hba : b = a
    · exact ⟨o, by show upd g.H a o b = some o; rw [hba, upd_same]⟩
    · obtain ⟨x, hx⟩ := w.there b hb
      refine ⟨x, ?_⟩
      show upd g.H a o b = some x
      rw [upd_ne hba]; exact hx
  · have hj : g.A[j]? = some b := hj
    by_cases hjk : j = k
    · subst hjk
      have hlt : j < st.length := by rw [← w.len]; exact (List.getElem?_eq_some_iff.mp ha).1
      rw [List.getElem?_set_self hlt] at hb
      cases hb
      rw [ha] at hj
      cases hj
      exact obAt_new (g := ⟨g.F, g.A, upd g.H a o⟩) hn hF upd_same
    · rw [List.getElem?_set_ne (Ne.symm hjk)] at hb
      have hba : b ≠ a := fun z => hjk (nd_ix w.nd hj (by rw [z]; exact ha))
      refine ObAt.ext (g := g) (g' := ⟨g.F, g.A, upd g.H a o⟩) (Same.refl _) id ?_ (w.own j b ob' hj hb)
      show upd g.H a o b = g.H b
      rw [upd_ne hba]
theorem rel_mut {ρ : Slots} {st : Store} {σ : L2.St} {g : Gh} (r : Rel K ρ st σ g) {k : Nat} {a : Addr} (ha : g.A[k]? = some a) (hF : g.F a = none) {ob : Ob} {o : HO} (hn : NewAt K g.F ob o) : Rel K ρ (st.set k ob) σ ⟨g.F, g.A, upd g.H a o⟩ :=
  ⟨wd_mut r.wd ha hF hn, r.sl.ext (ext_mut ha o)⟩
theorem own_lst {st : Store} {g : Gh} (w : Wd K st g) {k : Nat} {a : Addr} (ha : g.A[k]? = some a) {l : List PyData} (h : st[k]? = some (.lst l)) : g.F a = none ∧ ∃ xs, g.H a = some (.lst xs) ∧ HasL K g.F l xs := w.own k a _ ha h
theorem own_dct {st : Store} {g : Gh} (w : Wd K st g) {k : Nat} {a : Addr} (ha : g.A[k]? = some a) {t : Bool} {l : List (PyData × PyData)} (h : st[k]? = some (.dct t l)) : g.F a = none ∧ DctAt K g.F l (g.H a) t := w.own k a _ ha h
end

/-! ### o[i] = v -/
noncomputable def putS (st : Store) (o : Vd) (i d : PyData) : R Store := match o with
  | .p _ => .bad
  | .loc k => match st[k]? with
    | some (.lst ds) => match i with
      | .int n => match ixN ds.length n with
        | some j => .ok (st.set k (.lst (ds.set j d)))
        | none => .bad
      | _ => .bad
    | some (.dct t ds) => if keyB t i = true ∧ ds.length < LIM then .ok (st.set k (.dct t (putP ds i d))) else .bad
    | _ => .bad
section
variable {X : Cx} {W : Wish}
theorem set_or {t t' : TSet} (h : PSet X t) (h' : PSet X t') : PSet X (fun o i v H Q => t o i v H Q ∨ t' o i v H Q) := by
  intro pins s σ H o i v ov iv u Q I ro ri rv q
  rcases q with q | q
  · exact h pins s σ H o i v ov iv u Q I ro ri rv q
  · exact h' pins s σ H o i v ov iv u Q I ro ri rv q
theorem put_run {ρ : Slots} {st : Store} {σ : L2.St} {g : Gh} {o : Vd} {x ui v : V} {i d : PyData} {Q : Hp → Prop} (rel : Rel X.K ρ st σ g) (ho : HasV X.K g o x) (hi : Pk X.K g i ui) (hd : Has X.K g.F d v)
    (k : KR no (fun st' => ∀ g', Ext g g' → Rel X.K ρ st' σ g' → Q g'.H) (putS st o i d)) : rSetL x ui v g.H Q ∨ rSetD x ui v g.H Q := by
  cases o with
  | p _ => exact k.elim
  | loc j =>
    obtain ⟨a, ha, rfl⟩ := ho
    unfold putS at k
    simp only at k
    cases hj : st[j]? with
    | none => rw [hj] at k; exact k.elim
    | some ob =>
      rw [hj] at k
      cases ob with
      | fz _ => exact k.elim
      | lst ds =>
        obtain ⟨hF, xs, hH, hl⟩ := own_lst rel.wd ha hj
        cases i with
        | int n =>
          simp only at k
          cases hx : ixN ds.length n with
          | none => simp only [hx] at k; exact k.elim
          | some m =>
            simp only [hx] at k
            have hn : NewAt X.K g.F (.lst (ds.set m d)) (.lst (xs.set m v)) := ⟨_, rfl, hl.set hd m⟩
            refine .inl ⟨a, xs, n, m, rfl, hi.int, hH, by rw [hl.1]; exact hx, ?_⟩
            exact k _ (ext_mut ha _) (rel_mut rel ha hF hn)
        | _ => exact k.elim
      | dct t ds =>
        obtain ⟨hF, hD⟩ := own_dct rel.wd ha hj
        simp only at k
        split at k
        · rename_i hk
          have hu := pk_key (X := X) (st := st) hk.1 hi
          have go : ∀ o', DPut g.H a ui v (upd g.H a o') → NewAt X.K g.F (.dct t (putP ds i d)) o' → rSetL (.ref a) ui v g.H Q ∨ rSetD (.ref a) ui v g.H Q := fun o' hp hn =>
            .inr ⟨a, _, rfl, hp, k _ (ext_mut ha _) (rel_mut rel ha hF hn)⟩
          cases t with
          | false =>
            obtain ⟨xs, e, d2⟩ := hD
            have d2 : D2 X.K g.F keyP ds xs := d2
            obtain ⟨k', rfl⟩ := key_of1 (d := i) hk.1
            cases has_key hu
            have := d2.put keyP_inj k' hd
            exact go (.dK (putK xs k' v)) (.k e (by rw [d2.len, lim_eq]; exact hk.2)) ⟨_, rfl, this⟩
          | true =>
            obtain ⟨xs, e, d2⟩ := hD
            have d2 : D2 X.K g.F keyT ds xs := d2
            cases i with
            | tuple l =>
              obtain ⟨ks, rfl⟩ := keys_of (l := l) hk.1
              obtain ⟨b, rfl, hb⟩ := has_tkey (ks := ks) hu
              have := d2.put keyT_inj ks hd
              exact go (.dT (putK xs ks v)) (.t e (rel.wd.sub _ _ hb) (by rw [d2.len, lim_eq]; exact hk.2)) ⟨_, rfl, this⟩
            | _ => exact absurd hk.1 (by simp [keyB])
        · exact k.elim
/-- an answer's use within a statement, where the heap stands -/
theorem liftS_peek {ρ : Slots} {st : Store} {x : Vd} {D : Ends} {g : Gh} {k : PyData → RS} (h : KS X.K W D g (peek st x >>= k)) : ∃ d, peek st x = .ok d ∧ KS X.K W D g (k d) := peek_bind h
noncomputable def sPut (fv fo fi : FE) : FS := fun ρ st => liftS ρ (fv ρ st) fun v => liftS ρ (fo ρ v.2) fun o => liftS ρ (fi ρ o.2) fun i => peek i.2 i.1 >>= fun n => frz i.2 v.1 >>= fun d => putS d.2 o.1 n d.1 >>= fun st' => .ok (.nx, ρ, st')
theorem Pk.frz_in {K : PySem.W.Frag} {g g' : Gh} (e : Ext g g') (eH : g'.H = g.H) {d : PyData} {v : V} (h : Pk K g d v) : Pk K g' d v := by
  cases d with
  | list ds => obtain ⟨a, xs, q, s, l⟩ := h; exact ⟨a, xs, q, by rw [eH]; exact s, l.mono e.frz⟩
  | dict ds =>
    obtain ⟨a, q, h⟩ := h
    refine ⟨a, q, ?_⟩
    rw [eH]
    rcases h with ⟨xs, h1, h2, h3⟩ | ⟨xs, h1, h2, h3⟩
    · exact .inl ⟨xs, h1, h2, h3.mono e.frz⟩
    · exact .inr ⟨xs, h1, h2, h3.mono e.frz⟩
  | _ => exact Has.mono e.frz h
theorem vs_put {o i e : Expr} {fv fo fi : FE} {tpos pos : Pos} (hu : X.A.units + 64 < cLine) (hv : VE X W e fv) (ho : VE X W o fo) (hi : VE X W i fi) (hs : swapsWithSole [.Subscript o i tpos] e pos.line X.env = pure false := by rfl) (hw : swappedStores [.Subscript o i tpos] e X.env = pure none := by rfl)
    (h1 : (assignEach [.Subscript o i tpos] X.env).map (·.2) = [assign (.Subscript o i tpos) X.env] := by rfl)
    (ha : ∀ v, assign (.Subscript o i tpos) X.env v = (do
      let ov ← holding [v] (eval o X.env)
      let iv ← holding [v, ov] (eval i X.env)
      standAt tpos
      holding [v, ov, iv] (setItem ov iv v)
      release [v, ov, iv] []) := by intro _; rfl) : VS X W (.Assign [.Subscript o i tpos] e pos) (sPut fv fo fi) := by
  obtain ⟨tv, pv, rv⟩ := hv.runS
  obtain ⟨to, po, ro⟩ := ho.runS
  obtain ⟨ti, pi, ri⟩ := hi.runS
  refine ⟨_, ps_asg pv (pg_sub po pi (set_or set_list (set_dict (Nat.lt_of_le_of_lt (Nat.add_le_add_left (by decide : 1 ≤ 64) _) hu))) ha) hs hw h1, fun ρ st σ g D rel k => ?_⟩
  refine rv ρ st σ g _ D _ rel k fun d1 st1 v1 g1 e1 r1 h1 k1 => ?_
  refine ro ρ st1 σ g1 _ D _ r1 k1 fun d2 st2 v2 g2 e2 r2 h2 k2 => ?_
  refine ri ρ st2 σ g2 _ D _ r2 k2 fun d3 st3 v3 g3 e3 r3 h3 k3 => ?_
  obtain ⟨n, pn, k4⟩ := peek_bind k3
  obtain ⟨⟨d, st4⟩, pd, k5⟩ := frz_bind k4
  have hn := pk_of r3.wd h3 pn
  obtain ⟨g4, eH, e4, r4, h4⟩ := frz_ok r3 ((h1.ext e2).ext e3) pd
  have := put_run (Q := fun H => D.nx σ H) r4 ((h2.ext e3).ext e4) (hn.frz_in e4 eH) h4 (KR.mono (KR.bind k5) (fun st' hq g' e' r' => hq σ g' (e4.trans e') r') fun _ _ z => z)
  rw [← eH]
  exact this

/-! ### name op= e -/
def IpV (X : Cx) (op : Operator) (f : PyData → PyData → R PyData) : Prop := ∃ t, PIp X op t ∧ ∀ (ρ : Slots) (st : Store) (σ : L2.St) (g : Gh) (x y : PyData) (v u : V) (Q : VK), Rel X.K ρ st σ g → Pk X.K g x v → Pk X.K g y u →
    KR no (fun d => ∀ w g', Ext g g' → Rel X.K ρ st σ g' → Has X.K g'.F d w → Q w g'.H) (f x y) → t v u g.H Q
def addI : PyData → PyData → R PyData
  | .int i, .int j => .ok (.int (i + j))
  | _, _ => .bad
def subI : PyData → PyData → R PyData
  | .int i, .int j => .ok (.int (i - j))
  | _, _ => .bad
theorem iv_add : IpV X .Add addI := by
  refine ⟨_, ip_add, fun ρ st σ g x y v u Q rel hx hy k => ?_⟩
  cases x with
  | int i =>
    cases y with
    | int j => exact ⟨i, j, hx.int, hy.int, k _ g (Ext.refl g) rel (.int _)⟩
    | _ => exact k.elim
  | _ => cases y <;> exact k.elim
theorem iv_sub : IpV X .Sub subI := by
  refine ⟨_, ip_sub, fun ρ st σ g x y v u Q rel hx hy k => ?_⟩
  cases x with
  | int i =>
    cases y with
    | int j => exact ⟨i, j, hx.int, hy.int, k _ g (Ext.refl g) rel (.int _)⟩
    | _ => exact k.elim
  | _ => cases y <;> exact k.elim
def sAug (i : Nat) (o : PyData → PyData → R PyData) (f : FE) : FS := fun ρ st => match ρ[i]? with
  | some (some x) => liftS ρ (f ρ st) fun a => peek a.2 x >>= fun u => peek a.2 a.1 >>= fun v => o u v >>= fun d => .ok (.nx, ρ.set i (some (.p d)), a.2)
  | _ => .bad
theorem vs_aug {i : Nat} {x : Str} {e : Expr} {f : FE} {o : PyData → PyData → R PyData} {op : Operator} {pos pos' : Pos} (hN : X.N.Nodup) (hi : X.N[i]? = some x) (hx : Loc X.env.scope x) (ho : IpV X op o) (he : VE X W e f) (hf : X.fn x = true ∨ X.env.scope.names.lookup x = some .local := by first | exact .inl rfl | exact .inr rfl | assumption) :
    VS X W (.AugAssign (.Name x pos') op e pos) (sAug i o f) := by
  obtain ⟨t, pe, run⟩ := he.runS
  obtain ⟨ti, pip, hip⟩ := ho
  refine ⟨_, ps_aug hN hi hx pe pip hf, fun ρ st σ g D rel k => ?_⟩
  unfold sAug at k
  cases hr : ρ[i]? with
  | none => simp only [hr] at k; exact k.elim
  | some ov =>
    cases ov with
    | none => simp only [hr] at k; exact k.elim
    | some x0 =>
      simp only [hr] at k
      obtain ⟨v0, s1, h0⟩ := rel.sl.2 i x0 hr
      refine ⟨v0, s1, ?_⟩
      refine run ρ st σ g _ D _ rel k fun d1 st1 v1 g1 e1 r1 h1 k1 => ?_
      obtain ⟨u, pu, k2⟩ := peek_bind k1
      obtain ⟨w, pw, k3⟩ := peek_bind k2
      refine hip ρ st1 σ g1 u w v0 v1 _ r1 (pk_of r1.wd (h0.ext e1) pu) (pk_of r1.wd h1 pw) ?_
      exact KR.mono (KR.bind k3) (fun d hd w' g' e' r' hw => hd _ g' e' ⟨r'.wd, r'.sl.set (show HasV X.K g' (.p d) w' from hw) i⟩) fun _ _ z => z

/-! ### methods -/
def MthV (X : Cx) (W : Wish) (T id : String) (ty : Store → Vd → Bool) (M : Store → Vd → List Vd → R (Vd × Store)) : Prop :=
  ∃ r, MtR X id r ∧ (∀ (st : Store) (g : Gh) (x : Vd) (v : V), Wd X.K st g → HasV X.K g x v → ty st x = true → tyV X.K T v g.H) ∧
  ∀ (ρ : Slots) (st : Store) (σ : L2.St) (g : Gh) (x : Vd) (v : V) (ds : List Vd) (vs : List V) (Q : VK), Rel X.K ρ st σ g → HasV X.K g x v → HasVL X.K g ds vs → KR (WN X.K W ρ σ g) (okE X.K ρ σ Q g) (M st x ds) → r v vs g.H Q
def vMth (ty : Store → Vd → Bool) (M : Store → Vd → List Vd → R (Vd × Store)) (fo : FE) (fa : FA) : FE := fun ρ st => fo ρ st >>= fun o => if ty o.2 o.1 = true then fa ρ o.2 >>= fun a => M a.2 o.1 a.1 else .bad
variable {o e : Expr} {es : List Expr} {fo : FE} {fa : FA} {name : Str} {apos cpos : Pos} {T id : String} {ty : Store → Vd → Bool} {M : Store → Vd → List Vd → R (Vd × Store)}
theorem ve_mth (pa : PlainAttrs T) (slot : Slot T name id) (hty : typeOf (.builtin id) = pure (.type "method_descriptor")) (hm : MthV X W T id ty M) (ho : VE X W o fo) (ha : VA X W (e :: es) fa)
    (hbase : attributeBase o name X.env (eval o X.env) = eval o X.env := by rfl)
    (hfew : ((backTo cpos (starEach (e :: es) X.env)).all (fun x => !x.1) && (backToKw cpos (keywordEach [] X.env)).all (fun x => x.1.isSome)
      && decide ((e :: es).length + ([] : List Keyword).length + (if ([] : List Keyword).isEmpty then 0 else 1) < 30)) = true := by rfl)
    (hline : (apos.endLine == cpos.line) = true := by rfl) (hs : starEach (e :: es) X.env = (false, eval e X.env) :: starEach es X.env := by rfl) (hplain : (backTo cpos (starEach es X.env)).any (·.1) = false := by rfl) :
    VE X W (.Call (.Attribute o name apos) (e :: es) [] cpos) (vMth ty M fo fa) := by
  obtain ⟨r, hr, htyp, hread⟩ := hm
  obtain ⟨t, pe, run⟩ := ho.run
  obtain ⟨ta, pae, runa⟩ := ha.run
  refine ⟨_, pe_bm pa slot hty hr pe pae hbase hfew hline hs hplain, fun ρ st σ g Q rel k => ?_⟩
  refine run ρ st σ g _ (okE X.K ρ σ Q) _ okE.goes rel k fun d1 st1 v1 g1 e1 r1 h1 k1 => ?_
  simp only at k1
  split at k1
  · rename_i ht
    refine ⟨htyp st1 g1 d1 v1 r1.wd h1 ht, ?_⟩
    exact runa ρ st1 σ g1 _ (okE X.K ρ σ Q) _ okE.goes r1 k1 fun ds st2 vs g2 e2 r2 h2 k2 => hread ρ st2 σ g2 d1 v1 ds vs Q r2 (h1.ext e2) h2 k2
  · exact k1.elim
theorem ve_mth0 (pa : PlainAttrs T) (slot : Slot T name id) (hty : typeOf (.builtin id) = pure (.type "method_descriptor")) (hm : MthV X W T id ty M) (ho : VE X W o fo)
    (hbase : attributeBase o name X.env (eval o X.env) = eval o X.env := by rfl) (hline : (apos.endLine == cpos.line) = true := by rfl) : VE X W (.Call (.Attribute o name apos) [] [] cpos) (vMth ty M fo aNil) := by
  obtain ⟨r, hr, htyp, hread⟩ := hm
  obtain ⟨t, pe, run⟩ := ho.run
  refine ⟨_, pe_bm0 pa slot hty hr pe hbase hline, fun ρ st σ g Q rel k => ?_⟩
  refine run ρ st σ g _ (okE X.K ρ σ Q) _ okE.goes rel k fun d1 st1 v1 g1 e1 r1 h1 k1 => ?_
  simp only at k1
  split at k1
  · rename_i ht
    exact ⟨htyp st1 g1 d1 v1 r1.wd h1 ht, hread ρ st1 σ g1 d1 v1 [] [] Q r1 h1 .nil k1⟩
  · exact k1.elim
def isLstV (st : Store) (x : Vd) : Bool := match peek st x with
  | .ok (.list _) => true
  | _ => false
theorem isLst_ty (st : Store) (g : Gh) (x : Vd) (v : V) (w : Wd X.K st g) (h : HasV X.K g x v) (e : isLstV st x = true) : tyV X.K "list" v g.H := by
  unfold isLstV at e
  split at e
  · rename_i ds hp
    obtain ⟨a, xs, rfl, s, _⟩ := (pk_of w h hp).lst
    exact .inl ⟨rfl, xs, s⟩
  · cases e
/-- l.append(d) -/
def mAppend (st : Store) (x : Vd) (ds : List Vd) : R (Vd × Store) := match x, ds with
  | .loc k, [d] => frz st d >>= fun a => match a.2[k]? with
    | some (.lst l) => if l.length < LIM then .ok (.p .none, a.2.set k (.lst (l ++ [a.1]))) else .bad
    | _ => .bad
  | _, _ => .bad
theorem mv_append : MthV X W "list" "list.append" isLstV mAppend := by
  refine ⟨_, mt_append, isLst_ty, fun ρ st σ g x v ds vs Q rel hx hd k => ?_⟩
  cases x with
  | p _ => exact k.elim
  | loc j =>
    cases ds with
    | nil => exact k.elim
    | cons d r =>
      cases r with
      | cons _ _ => exact k.elim
      | nil =>
        obtain ⟨u, ur, rfl, h1, h2⟩ := hd.uncons
        cases h2.nil_inv
        obtain ⟨⟨d', st'⟩, pd, k1⟩ := frz_bind (show KR _ _ (frz st d >>= _) from k)
        obtain ⟨g', eH, e', r', h'⟩ := frz_ok rel h1 pd
        obtain ⟨a, ha, rfl⟩ := hx.ext e'
        simp only at k1
        cases hj : st'[j]? with
        | none => rw [hj] at k1; exact k1.elim
        | some ob =>
          rw [hj] at k1
          cases ob with
          | lst l =>
            simp only at k1
            split at k1
            · rename_i hl
              obtain ⟨hF, xs, hH, hL⟩ := own_lst r'.wd ha hj
              have hn : NewAt X.K g'.F (.lst (l ++ [d'])) (.lst (xs ++ [u])) := ⟨_, rfl, hL.append (.singleton h')⟩
              refine ⟨a, xs, u, rfl, rfl, by rw [← eH]; exact hH, by rw [hL.1, lim_eq]; exact hl, ?_⟩
              rw [← eH]
              exact k1 .non _ (e'.trans (ext_mut ha _)) (rel_mut r' ha hF hn) (show Has X.K g'.F .none .non from .non)
            · exact k1.elim
          | _ => exact k1.elim
/-- l.pop() -/
def mPop (st : Store) (x : Vd) (ds : List Vd) : R (Vd × Store) := match x, ds with
  | .loc k, [] => match st[k]? with
    | some (.lst l) => match l[l.length - 1]? with
      | some d => .ok (.p d, st.set k (.lst l.dropLast))
      | none => .bad
    | _ => .bad
  | _, _ => .bad
theorem mv_pop : MthV X W "list" "list.pop" isLstV mPop := by
  refine ⟨_, mt_pop, isLst_ty, fun ρ st σ g x v ds vs Q rel hx hd k => ?_⟩
  cases x with
  | p _ => exact k.elim
  | loc j =>
    cases ds with
    | cons _ _ => exact k.elim
    | nil =>
      cases hd.nil_inv
      obtain ⟨a, ha, rfl⟩ := hx
      simp only [mPop] at k
      cases hj : st[j]? with
      | none => rw [hj] at k; exact k.elim
      | some ob =>
        rw [hj] at k
        cases ob with
        | lst l =>
          simp only at k
          cases hd : l[l.length - 1]? with
          | none => rw [hd] at k; exact k.elim
          | some d =>
            rw [hd] at k
            obtain ⟨hF, xs, hH, hL⟩ := own_lst rel.wd ha hj
            obtain ⟨y, hy, hdy⟩ := hL.get hd
            have hn : NewAt X.K g.F (.lst l.dropLast) (.lst xs.dropLast) := ⟨_, rfl, hL.dropLast⟩
            exact ⟨a, xs, y, rfl, rfl, hH, by rw [hL.1]; exact hy, k y _ (ext_mut ha _) (rel_mut rel ha hF hn) (show Has X.K g.F d y from hdy)⟩
        | _ => exact k.elim
/-- the first place of an equal one -/
def idxOf (ds : List PyData) (d : PyData) : Option Nat := ds.findIdx? fun z => PyData.eqv z d
def mIndex (st : Store) (x : Vd) (ds : List Vd) : R (Vd × Store) := match ds with
  | [y] => peek st x >>= fun l => peek st y >>= fun d => match l with
    | .list l => if SeqAt.shaped (.list l) = true ∧ SeqAt.shaped d = true then match idxOf l d with
      | some j => .ok (.p (.int (j : Nat)), st)
      | none => .bad else .bad
    | _ => .bad
  | _ => .bad
theorem mv_index (hu : X.A.units + 65 < cLine) : MthV X W "list" "list.index" isLstV mIndex := by
  refine ⟨_, mt_indexD hu, isLst_ty, fun ρ st σ g x v ds vs Q rel hx hd k => ?_⟩
  cases ds with
  | nil => exact k.elim
  | cons y r =>
    cases r with
    | cons _ _ => exact k.elim
    | nil =>
      obtain ⟨u, ur, rfl, h1, h2⟩ := hd.uncons
      cases h2.nil_inv
      obtain ⟨l, pl, k1⟩ := peek_bind (show KR _ _ (peek st x >>= _) from k)
      obtain ⟨d, pd, k2⟩ := peek_bind k1
      have hl := pk_of rel.wd hx pl
      have hy := pk_of rel.wd h1 pd
      cases l with
      | list l =>
        simp only at k2
        split at k2
        · rename_i hs
          cases hj : idxOf l d with
          | none => rw [hj] at k2; exact k2.elim
          | some j =>
            rw [hj] at k2
            obtain ⟨a, xs, rfl, s, hL⟩ := hl.lst
            have hf := List.findIdx?_eq_some_iff_getElem.mp hj
            obtain ⟨jl, p1, p2⟩ := hf
            refine ⟨a, u, d, l, j, l[j], rfl, rfl, Pk.dp rel.wd hl (canLay_shaped hs.1), Pk.dp rel.wd hy (canLay_shaped hs.2), hs.1, hs.2, List.getElem?_eq_getElem jl, p1, fun m z hm hz => ?_, okP_fin rel (.int _) k2⟩
            obtain ⟨ml, em⟩ := List.getElem?_eq_some_iff.mp hz
            have := p2 m hm
            rw [em] at this
            simpa using this
        · exact k2.elim
      | _ => exact k2.elim

/-! ### {} -/
def nDct (t : Bool) : FN := fun _ st => .ok (.dct t [], st)
theorem vn_dctK {pos : Pos} : VN X W (.Dict [] [] pos) (nDct false) :=
  ⟨_, pe_dnewK, fun ρ st σ g Q rel k p hp => okN_new rel k hp ⟨[], rfl, rfl, .nil⟩⟩
theorem vn_dctT {pos : Pos} : VN X W (.Dict [] [] pos) (nDct true) :=
  ⟨_, pe_dnewT, fun ρ st σ g Q rel k p hp => okN_new rel k hp ⟨[], rfl, rfl, .nil⟩⟩

/-! ### a, b = e, f -/
def sAsgT (fa : FA) (n : Nat) (h : FGs) : FS := fun ρ st => liftS ρ (fa ρ st) fun a => if a.1.length = n ∧ n ≤ LIM then h a.1 ρ a.2 >>= fun ρ' => .ok (.nx, ρ', a.2) else .bad
theorem vs_asgT {ts es : List Expr} {k1 k2 : Nat} {fa : FA} {h : FGs} {n : Nat} {vs : List Nat} {p1 p2 pos : Pos} (hc : X.calm = true) (ha : VA X W es fa) (hg : VGs X vs ts h) (hn : (assignEach ts X.env).length = n := by rfl) (hst : (assignEach ts X.env).findIdx? (·.1) = none := by rfl)
    (hs : swapsWithSole [.Tuple ts k1 p1] (.Tuple es k2 p2) pos.line X.env = pure false := by rfl) (hw : swappedStores [.Tuple ts k1 p1] (.Tuple es k2 p2) X.env = pure none := by rfl) (h1 : (assignEach [.Tuple ts k1 p1] X.env).map (·.2) = [assign (.Tuple ts k1 p1) X.env] := by rfl) :
    VS X W (.Assign [.Tuple ts k1 p1] (.Tuple es k2 p2) pos) (sAsgT fa n h) := by
  obtain ⟨t, pa, run⟩ := ha
  obtain ⟨u, pu, run2⟩ := hg
  refine ⟨_, ps_asg (pe_tup pa) (pg_tup hc pu hn hst) hs hw h1, fun ρ st σ g D rel k => ?_⟩
  refine run ρ st σ g _ rel ?_
  unfold sAsgT at k
  cases hf : fa ρ st with
  | bad => rw [hf] at k; exact k.elim
  | exc m s => rw [hf] at k; exact fun g1 e r => k σ g1 e r
  | ok a =>
    rw [hf] at k
    obtain ⟨ds, st1⟩ := a
    simp only [liftS_ok] at k
    split at k
    · rename_i hl
      intro us g1 e1 r1 hv
      refine ⟨by rw [lim_eq, hv.1, hl.1]; exact hl.2, fun p hp => ?_⟩
      refine ⟨p, us, rfl, .inl (.inl upd_same), hv.1.trans hl.1, ?_⟩
      have ex := ext_raw (o := .tup us) hp
      refine run2 ρ st1 σ (g1.raw p (.tup us)) ds us _ ⟨wd_raw r1.wd hp, r1.sl.ext ex⟩ (hv.ext ex) ?_
      exact KR.mono (KR.bind k) (fun ρ' hρ σ' _ r' => hρ σ' (g1.raw p (.tup us)) (e1.trans ex) r') fun _ _ z => z
    · exact k.elim
/-! ### a, b = e, f where the stores run backwards -/
theorem slk_nil : ∀ p ∈ ([] : List (Nat × Str)), X.N[p.1]? = some p.2 ∧ X.env.scope.names.lookup p.2 = some .local := fun p hp => by cases hp
theorem slk_cons {i : Nat} {x : Str} {l : List (Nat × Str)} (h1 : X.N[i]? = some x) (h2 : X.env.scope.names.lookup x = some .local) (h : ∀ p ∈ l, X.N[p.1]? = some p.2 ∧ X.env.scope.names.lookup p.2 = some .local) : ∀ p ∈ (i, x) :: l, X.N[p.1]? = some p.2 ∧ X.env.scope.names.lookup p.2 = some .local := fun p hp => by
  rcases List.mem_cons.mp hp with e | e
  · rw [e]; exact ⟨h1, h2⟩
  · exact h p e
def setsL (σ : L2.St) : List (Nat × Str) → List V → L2.St
  | p :: l, v :: vs => setsL (σ.set p.1 (some v)) l vs
  | _, _ => σ
def setsV (ρ : Slots) : List Nat → List Vd → Slots
  | i :: l, v :: vs => setsV (ρ.set i (some v)) l vs
  | _, _ => ρ
theorem asg_order {pins : List (Addr × Obj)} {H : Hp} (hN : X.N.Nodup) : ∀ {l : List (Nat × Str)} {ws : List V} {us : List Value} {σ : L2.St} {s : Shared}, (∀ p ∈ l, X.N[p.1]? = some p.2 ∧ X.env.scope.names.lookup p.2 = some .local) → Vals ws us → l.length = ws.length →
    Inv X pins σ H s → wpAny (model X.prog X.w) X.A (assignInOrder (l.map fun p v => bindName X.env p.2 v) us) (fun _ s' => Inv X pins (setsL σ l ws) H s') X.xe s
  | [], ws, us, σ, s, h, r, hl, I => assignInOrder_nil (by
      have : ws = [] := List.eq_nil_of_length_eq_zero hl.symm
      subst this
      exact I)
  | p :: l, [], us, σ, s, h, r, hl, I => absurd hl (by simp)
  | p :: l, w :: ws, us, σ, s, h, r, hl, I => by
    cases r with
    | cons r1 r2 =>
      obtain ⟨h1, h2⟩ := h p List.mem_cons_self
      exact assignInOrder_cons (wpAny_bindName (store_ok I hN h1 (.inl h2) r1 (fun s2 I2 => asg_order hN (fun q hq => h q (List.mem_cons_of_mem _ hq)) r2 (by simpa using hl) I2) (.inr h2)))
theorem vals_rev {xs : List V} {us : List Value} (h : Vals xs us) : Vals xs.reverse us.reverse := by
  induction h with
  | nil => exact .nil
  | cons a b ih => rw [List.reverse_cons, List.reverse_cons]; exact ih.append (.cons a .nil)
theorem ps_asgS {ts es : List Expr} {k1 k2 : Nat} {ta : TA} {sl : List (Nat × Str)} {p1 p2 pos : Pos} (hc : X.calm = true) (hN : X.N.Nodup) (ha : PA X es ta) (hsl : ∀ p ∈ sl, X.N[p.1]? = some p.2 ∧ X.env.scope.names.lookup p.2 = some .local)
    (hs : swapsWithSole [.Tuple ts k1 p1] (.Tuple es k2 p2) pos.line X.env = pure false) (hw : swappedStores [.Tuple ts k1 p1] (.Tuple es k2 p2) X.env = pure (some (sl.map (·.2)))) :
    PS X (.Assign [.Tuple ts k1 p1] (.Tuple es k2 p2) pos) (fun D σ H => tTup ta σ H fun v H1 => ∃ a xs, v = .ref a ∧ H1 a = some (.tup xs) ∧ xs.length = sl.length ∧ D.nx (setsL σ sl.reverse xs.reverse) H1) := by
  refine ⟨fun pins s σ H D I h => ?_⟩
  refine Assign_Tuple_swapped (names := sl.map (·.2)) (thn ((pe_tup ha).run pins s σ H _ I h) fun u s1 ⟨v, H1, I1, r1, a, xs, e, hq, hl, q⟩ => ?_) hs hw
  subst e
  cases r1
  obtain ⟨its, rv, p, hz⟩ := I1.tuple (.inl (.inl hq))
  have hn : (sl.map (·.2)).length = its.toArray.size := by rw [List.length_map, List.size_toArray, ← rv.length, hl]
  rw [hn]
  refine unpackItems_tuple (I.ok.hd hc) (show s1.heap.IsTuple a its.toArray from p) fun h' hx => ?_
  have I2 : Inv X pins σ H1 { s1 with heap := h' } := I1.kept (t' := s1.toks) fun b o e => hx b o (Nat.ne_of_lt (Heap.lt_size e)) e
  have e1 : ((sl.map (·.2)).reverse.map fun n => bindName X.env n) = (sl.reverse.map fun p v => bindName X.env p.2 v) := by
    rw [← List.map_reverse, List.map_map]; rfl
  rw [e1]
  exact thn (asg_order hN (ws := xs.reverse) (us := its.reverse) (l := sl.reverse) (σ := σ) (fun p hp => hsl p (List.mem_reverse.mp hp)) (vals_rev rv) (by rw [List.length_reverse, List.length_reverse, hl]) I2) fun _ s3 I3 => ⟨_, H1, I3, q⟩
theorem HasVL.rev {K : PySem.W.Frag} {g : Gh} {ds : List Vd} {xs : List V} (a : HasVL K g ds xs) : HasVL K g ds.reverse xs.reverse := by
  refine ⟨by simp [a.1], fun i d v hd hv => ?_⟩
  obtain ⟨h1, e1⟩ := List.getElem?_eq_some_iff.mp hd
  obtain ⟨h2, e2⟩ := List.getElem?_eq_some_iff.mp hv
  rw [List.getElem_reverse] at e1 e2
  have h3 : i < ds.length := by simpa using h1
  have h4 : i < xs.length := by simpa using h2
  refine a.2 (ds.length - 1 - i) d v ?_ ?_
  · rw [List.getElem?_eq_getElem (by omega), e1]
  · have e : ds.length - 1 - i = xs.length - 1 - i := by rw [a.1]
    rw [e, List.getElem?_eq_getElem (by omega), e2]
theorem sl_sets {K : PySem.W.Frag} {g : Gh} : ∀ {l : List (Nat × Str)} {ds : List Vd} {vs : List V} {ρ : Slots} {σ : L2.St}, Sl K g ρ σ → HasVL K g ds vs → Sl K g (setsV ρ (l.map (·.1)) ds) (setsL σ l vs)
  | [], ds, vs, ρ, σ, h, hv => h
  | p :: l, [], vs, ρ, σ, h, hv => by rw [hv.nil_inv]; exact h
  | p :: l, d :: ds, vs, ρ, σ, h, hv => by
    obtain ⟨v, r, rfl, h1, h2⟩ := hv.uncons
    exact sl_sets (l := l) (ρ := ρ.set p.1 (some d)) (σ := σ.set p.1 (some v)) (h.set h1 p.1) h2
def sAsgS (fa : FA) (is : List Nat) : FS := fun ρ st => liftS ρ (fa ρ st) fun a => if a.1.length = is.length ∧ a.1.length ≤ LIM then .ok (.nx, setsV ρ is.reverse a.1.reverse, a.2) else .bad
theorem vs_asgS {ts es : List Expr} {k1 k2 : Nat} {fa : FA} {sl : List (Nat × Str)} {is : List Nat} {p1 p2 pos : Pos} (hc : X.calm = true) (hN : X.N.Nodup) (ha : VA X W es fa) (hsl : ∀ p ∈ sl, X.N[p.1]? = some p.2 ∧ X.env.scope.names.lookup p.2 = some .local) (his : sl.map (·.1) = is := by rfl)
    (hs : swapsWithSole [.Tuple ts k1 p1] (.Tuple es k2 p2) pos.line X.env = pure false := by rfl) (hw : swappedStores [.Tuple ts k1 p1] (.Tuple es k2 p2) X.env = pure (some (sl.map (·.2))) := by rfl) :
    VS X W (.Assign [.Tuple ts k1 p1] (.Tuple es k2 p2) pos) (sAsgS fa is) := by
  obtain ⟨t, pa, run⟩ := ha
  subst his
  refine ⟨_, ps_asgS hc hN pa hsl hs hw, fun ρ st σ g D rel k => ?_⟩
  refine run ρ st σ g _ rel ?_
  unfold sAsgS at k
  cases hf : fa ρ st with
  | bad => rw [hf] at k; exact k.elim
  | exc m s => rw [hf] at k; exact fun g1 e r => k σ g1 e r
  | ok a =>
    rw [hf] at k
    obtain ⟨ds, st1⟩ := a
    simp only [liftS_ok] at k
    split at k
    · rename_i hl
      intro us g1 e1 r1 hv
      refine ⟨by rw [lim_eq, hv.1]; exact hl.2, fun p hp => ?_⟩
      refine ⟨p, us, rfl, upd_same, by rw [hv.1, hl.1, List.length_map], ?_⟩
      have ex := ext_raw (o := .tup us) hp
      refine k _ (g1.raw p (.tup us)) (e1.trans ex) ⟨wd_raw r1.wd hp, ?_⟩
      have := sl_sets (l := sl.reverse) (r1.sl.ext ex) (hv.ext ex).rev
      rw [List.map_reverse] at this
      exact this
    · exact k.elim
end
end VL

namespace VL
open PySem PySem.Spec PyProof.Rows L2
section
variable {X : Cx} {W : Wish}
theorem room65 {k : Nat} {A : Around} (r : Room k A) : A.units + 65 < cLine := by have := r.un; omega
/-! ### products -/
noncomputable instance (i j : Int) : Decidable (PySem.IntMulOk i j) := Classical.propDecidable _
noncomputable def mulP : PyData → PyData → R PyData
  | .int i, .int j => if PySem.IntMulOk i j then .ok (.int (i * j)) else .bad
  | .tuple l, .int k => if l ≠ [] ∧ 2 ≤ k ∧ k ≤ 1000 ∧ l.length ≤ 1000 then .ok (.tuple (List.replicate k.toNat l).flatten) else .bad
  | _, _ => .bad
theorem op_mulI : OpR X (binaryOp .Mult) (rI PySem.IntMulOk fun i j => .int (i * j)) := opI fun _ _ _ _ _ _ _ hc q => mul_int q hc
theorem ov_mul : OpV X W (binaryOp .Mult) mulP := by
  refine ⟨_, opR_or op_mulI op_repT, fun ρ st σ g x y v u Q rel hx hy k => ?_⟩
  cases x with
  | int i =>
    cases y with
    | int j =>
      simp only [mulP] at k
      split at k
      · rename_i hc
        exact .inl ⟨i, j, hx.int, hy.int, hc, okP_fin rel (.int _) k⟩
      · exact k.elim
    | _ => exact k.elim
  | tuple l =>
    cases y with
    | int j =>
      simp only [mulP] at k
      split at k
      · rename_i hc
        obtain ⟨a, xs, rfl, s, h⟩ := hx.tupF
        refine .inr ⟨a, j, xs, rfl, hy.int, seqT_mono rel.wd.sub (.inl (.inl s)), fun z => hc.1 ?_, hc.2.1, hc.2.2.1, by rw [h.1]; exact hc.2.2.2, okP_newT rel (h.flat_rep _) k⟩
        subst z
        exact List.eq_nil_of_length_eq_zero h.1.symm
      · exact k.elim
    | _ => exact k.elim
  | _ => cases y <;> exact k.elim
/-- a fresh list, many times -/
def nRep (f : FN) (h : FE) : FN := fun ρ st => f ρ st >>= fun a => h ρ a.2 >>= fun b => match a.1, b.1 with
  | .lst l, .p (.int k) => if -(2 ^ 63) ≤ k ∧ k < 2 ^ 63 ∧ l.length * k.toNat ≤ LIM then .ok (.lst (List.replicate k.toNat l).flatten, b.2) else .bad
  | _, _ => .bad
theorem vn_rep {a b : Expr} {f : FN} {h : FE} {pos : Pos} (ha : VN X W a f) (hb : VE X W b h) : VN X W (.BinOp a .Mult b pos) (nRep f h) := by
  obtain ⟨t, pe, run⟩ := ha
  obtain ⟨u, pu, run2⟩ := hb.run
  refine ⟨_, pe_op op_rep pe pu, fun ρ st σ g Q rel k => ?_⟩
  refine run ρ st σ g _ rel (KR.mono (KR.bind k) (fun a ha p o g' e r' hp hH hF hA hn => ?_) fun n s hn => hn)
  obtain ⟨ob, st1⟩ := a
  refine run2 ρ st1 σ g' _ (okN X.K ρ σ Q) _ okN.goes r' (KR.mono ha (fun b hb => okN.goes g g' b e hb) fun n s hn => hn.ext e) fun d st2 v g2 e2 r2 h2 k2 => ?_
  cases ob with
  | lst l =>
    cases d with
    | loc _ => exact k2.elim
    | p d =>
      cases d with
      | int m =>
        simp only at k2
        split at k2
        · rename_i hc
          obtain ⟨xs, rfl, hl⟩ := hn
          have hl2 := hl.mono e2.frz
          refine ⟨p, m, xs, rfl, Has.int_inv h2, e2.keep p _ hH hA, hc.1, hc.2.1, by rw [hl.1, lim_eq]; exact hc.2.2, fun q hq => ?_⟩
          exact okN_new r2 k2 hq ⟨_, rfl, hl2.flat_rep _⟩
        · exact k2.elim
      | _ => exact k2.elim
  | dct _ _ => exact k2.elim
  | fz _ => exact k2.elim
/-! ### more of op= -/
theorem iv_of {op : Operator} {C : Int → Int → Prop} [∀ i j, Decidable (C i j)] {gd : Int → Int → Int} (h : OpR X (inplaceOp op) (rI C fun i j => .int (gd i j))) : IpV X op (intP C fun i j => .int (gd i j)) := by
  refine ⟨_, h, fun ρ st σ g x y v u Q rel hx hy k => ?_⟩
  cases x with
  | int i =>
    cases y with
    | int j =>
      simp only [intP] at k
      split at k
      · rename_i hc
        exact ⟨i, j, hx.int, hy.int, hc, k _ g (Ext.refl g) rel (.int _)⟩
      · exact k.elim
    | _ => exact k.elim
  | _ => cases y <;> exact k.elim
end
/-! ### the law's end -/
theorem sp_end {K : PySem.W.Frag} {H : Hp} {a : Addr} {ns : List Int} {m : FM} {E : XK} {W : XK → Str → Hp → Prop} (hS : SqL K H a (ns.map V.int)) (h : ∃ st', m [.p (.list (ns.map .int))] [] = .ok (.p (.bool true), st')) : spV K W 1 m [.ref a] H (fun v _ => v = .bl true) E := by
  obtain ⟨st', h⟩ := h
  refine ⟨rfl, [.p (.list (ns.map .int))], [], ⟨H, [], H⟩, rfl, ⟨Same.refl _, List.nodup_nil, rfl, fun a h => by simp at h, fun k a ob h => by simp at h⟩, ?_, ?_⟩
  · exact .cons (show Has K H (.list (ns.map .int)) (.ref a) from .lst' hS (hasL_of_ints ns)) .nil
  · rw [h]
    exact fun v g' e w hv => Has.bl_inv hv
end VL

/-! what meanings compute: rewriting by applied forms -/
namespace VL
open PySem PySem.Spec PyProof.Rows L2
section
variable (ρ : Slots) (st : Store) (f h k : FE) (fa : FA) (fi : FI) (gt : FG) (gs : FGs) (c c' : FT) (sf sh : FS) (i : Nat) (d : PyData)
@[simp] theorem vVar_ap {v : Vd} (hv : ρ[i]? = some (some v)) : vVar i ρ st = .ok (v, st) := by unfold vVar; rw [hv]
@[simp] theorem vC_ap : vC d ρ st = .ok (.p d, st) := rfl
@[simp] theorem aNil_ap : aNil ρ st = .ok ([], st) := rfl
@[simp] theorem aCons_ap : aCons f fa ρ st = (f ρ st >>= fun a => fa ρ a.2 >>= fun b => .ok (a.1 :: b.1, b.2)) := rfl
@[simp] theorem vBin_ap (o : PyData → PyData → R PyData) : vBin o f h ρ st = (f ρ st >>= fun a => h ρ a.2 >>= fun b => peek b.2 a.1 >>= fun x => peek b.2 b.1 >>= fun y => o x y >>= fun d => .ok (.p d, b.2)) := rfl
@[simp] theorem vBinD_ap (o : Store → Vd → Vd → R PyData) : vBinD o f h ρ st = (f ρ st >>= fun a => h ρ a.2 >>= fun b => o b.2 a.1 b.1 >>= fun d => .ok (.p d, b.2)) := rfl
@[simp] theorem vUn_ap (o : PyData → R PyData) : vUn o f ρ st = (f ρ st >>= fun a => peek a.2 a.1 >>= fun x => o x >>= fun d => .ok (.p d, a.2)) := rfl
@[simp] theorem vCall_ap (o : List PyData → R PyData) : vCall o fa ρ st = (fa ρ st >>= fun a => peekL a.2 a.1 >>= fun ds => o ds >>= fun d => .ok (.p d, a.2)) := rfl
@[simp] theorem vDef_ap (n : Nat) (m : FM) : vDef n m fa ρ st = (fa ρ st >>= fun a => if a.1.length = n then (m a.1 a.2).only fun b => .ok b else .bad) := rfl
@[simp] theorem vTup_ap : vTup fa ρ st = (fzA fa ρ st >>= fun a => if a.1.length ≤ LIM then .ok (.p (.tuple a.1), a.2) else .bad) := rfl
@[simp] theorem fzA_ap : fzA fa ρ st = (fa ρ st >>= fun a => frzL a.1 a.2) := rfl
@[simp] theorem vFz_ap (n : FN) : vFz n ρ st = (n ρ st >>= fun a => .ok (.p (obP a.1), a.2)) := rfl
@[simp] theorem vOwn_ap (n : FN) : vOwn n ρ st = (n ρ st >>= fun a => .ok (.loc a.2.length, a.2 ++ [a.1])) := rfl
@[simp] theorem nLst_ap : nLst fa ρ st = (fzA fa ρ st >>= fun a => if a.1.length ≤ LIM then .ok (.lst a.1, a.2) else .bad) := rfl
@[simp] theorem nDct_ap (t : Bool) : nDct t ρ st = .ok (.dct t [], st) := rfl
@[simp] theorem nListOf_ap : nListOf f ρ st = (f ρ st >>= fun a => peek a.2 a.1 >>= fun d => optR (itemsOf d) >>= fun ds => .ok (.lst ds, a.2)) := rfl
@[simp] theorem nLc_ap (fe : FE) (vs : List Nat) : nLc fi gt c fe vs ρ st = (fi ρ st >>= fun a => (lcG a.1 gt c fe (wipeV ρ vs) a.1.ds a.2).only fun b => if b.1.length ≤ LIM then .ok (.lst b.1, b.2) else .bad) := rfl
@[simp] theorem asB_ap : asB f ρ st = (f ρ st >>= fun a => match a.1 with | .p (.bool b) => .ok (b, a.2) | _ => .bad) := rfl
@[simp] theorem vTru_ap : vTru f ρ st = (f ρ st >>= fun a => peek a.2 a.1 >>= fun x => truP x >>= fun b => .ok (b, a.2)) := rfl
@[simp] theorem tNot_ap : tNot c ρ st = (c ρ st >>= fun a => .ok (!a.1, a.2)) := rfl
@[simp] theorem vAnd_ap : vAnd c c' ρ st = (c ρ st >>= fun a => if a.1 = true then c' ρ a.2 else .ok (false, a.2)) := rfl
@[simp] theorem vOr_ap : vOr c c' ρ st = (c ρ st >>= fun a => if a.1 = true then .ok (true, a.2) else c' ρ a.2) := rfl
@[simp] theorem vAndV_ap : vAndV f h ρ st = (asB f ρ st >>= fun a => if a.1 = true then h ρ a.2 else .ok (.p (.bool false), a.2)) := rfl
@[simp] theorem vOrV_ap : vOrV f h ρ st = (asB f ρ st >>= fun a => if a.1 = true then .ok (.p (.bool true), a.2) else h ρ a.2) := rfl
@[simp] theorem vNotV_ap : vNotV f ρ st = (asB f ρ st >>= fun a => .ok (.p (.bool (!a.1)), a.2)) := rfl
@[simp] theorem vIf_ap : vIf c f h ρ st = (c ρ st >>= fun a => if a.1 = true then f ρ a.2 else h ρ a.2) := rfl
@[simp] theorem vSl_ap (l u : FO) : vSl f l u ρ st = (f ρ st >>= fun a => l ρ a.2 >>= fun b => u ρ b.2 >>= fun c => peek c.2 a.1 >>= fun x => slP x b.1 c.1 >>= fun d => .ok (.p d, c.2)) := rfl
@[simp] theorem oNone_ap : oNone ρ st = .ok (none, st) := rfl
@[simp] theorem oSome_ap : oSome f ρ st = (f ρ st >>= fun a => match a.1 with | .p (.int i) => .ok (some i, a.2) | _ => .bad) := rfl
@[simp] theorem fYes_ap : fYes ρ st = .ok (true, st) := rfl
@[simp] theorem iSeq_ap : iSeq f ρ st = (f ρ st >>= fun a => srcOf a.2 a.1 >>= fun s => .ok (s, a.2)) := rfl
@[simp] theorem iRange1_ap : iRange1 f ρ st = (f ρ st >>= fun a => match a.1 with | .p (.int n) => if In62 n then .ok (⟨rangeD 0 n, none⟩, a.2) else .bad | _ => .bad) := rfl
@[simp] theorem iRange2_ap : iRange2 f h ρ st = (f ρ st >>= fun a => h ρ a.2 >>= fun b => match a.1, b.1 with | .p (.int m), .p (.int n) => if In62 m ∧ In62 n then .ok (⟨rangeD m n, none⟩, b.2) else .bad | _, _ => .bad) := rfl
@[simp] theorem gSet_ap (v : Vd) : gSet i v ρ st = .ok (ρ.set i (some v)) := rfl
@[simp] theorem gTupV_ap (n : Nat) (v : Vd) : gTupV n gs v ρ st = (peek st v >>= fun x => optR (itemsOf x) >>= fun ds => if ds.length = n then gs (ds.map .p) ρ st else .bad) := rfl
@[simp] theorem gsNil_ap : gsNil [] ρ st = .ok ρ := rfl
@[simp] theorem gsCons_ap (v : Vd) (r : List Vd) : gsCons gt gs (v :: r) ρ st = (gt v ρ st >>= fun ρ' => gs r ρ' st) := rfl
@[simp] theorem sNil_ap : sNil ρ st = .ok (.nx, ρ, st) := rfl
@[simp] theorem sSeq_ap : sSeq sf sh ρ st = (sf ρ st >>= fun a => match a.1 with | .nx => sh a.2.1 a.2.2 | o => .ok (o, a.2)) := rfl
@[simp] theorem sRet_ap : sRet f ρ st = liftS ρ (f ρ st) fun a => .ok (.rt a.1, ρ, a.2) := rfl
@[simp] theorem sRetN_ap : sRetN ρ st = .ok (.rt (.p .none), ρ, st) := rfl
@[simp] theorem sBk_ap : sBk ρ st = .ok (.bk, ρ, st) := rfl
@[simp] theorem sCt_ap : sCt ρ st = .ok (.ct, ρ, st) := rfl
@[simp] theorem sExpr_ap : sExpr f ρ st = liftS ρ (f ρ st) fun a => .ok (.nx, ρ, a.2) := rfl
@[simp] theorem sIf_ap : sIf c sf sh ρ st = liftS ρ (c ρ st) fun a => if a.1 = true then sf ρ a.2 else sh ρ a.2 := rfl
@[simp] theorem sSet_ap : sSet i f ρ st = liftS ρ (f ρ st) fun a => .ok (.nx, ρ.set i (some a.1), a.2) := rfl
@[simp] theorem sAsg_ap : sAsg f gt ρ st = liftS ρ (f ρ st) fun a => gt a.1 ρ a.2 >>= fun ρ' => .ok (.nx, ρ', a.2) := rfl
@[simp] theorem sAsgT_ap (n : Nat) : sAsgT fa n gs ρ st = liftS ρ (fa ρ st) fun a => if a.1.length = n ∧ n ≤ LIM then gs a.1 ρ a.2 >>= fun ρ' => .ok (.nx, ρ', a.2) else .bad := rfl
@[simp] theorem sAsgS_ap (is : List Nat) : sAsgS fa is ρ st = liftS ρ (fa ρ st) fun a => if a.1.length = is.length ∧ a.1.length ≤ LIM then .ok (.nx, setsV ρ is.reverse a.1.reverse, a.2) else .bad := rfl
@[simp] theorem sPut_ap : sPut f h k ρ st = liftS ρ (f ρ st) fun v => liftS ρ (h ρ v.2) fun o => liftS ρ (k ρ o.2) fun i => peek i.2 i.1 >>= fun n => frz i.2 v.1 >>= fun d => putS d.2 o.1 n d.1 >>= fun st' => .ok (.nx, ρ, st') := rfl
@[simp] theorem sAug_ap (o : PyData → PyData → R PyData) {x : Vd} (hx : ρ[i]? = some (some x)) : sAug i o f ρ st = liftS ρ (f ρ st) fun a => peek a.2 x >>= fun u => peek a.2 a.1 >>= fun v => o u v >>= fun d => .ok (.nx, ρ.set i (some (.p d)), a.2) := by
  unfold sAug; rw [hx]
@[simp] theorem sFor_ap : sFor fi gt sf ρ st = liftS ρ (fi ρ st) fun a => forG a.1 gt sf a.1.ds ρ a.2 := rfl
@[simp] theorem vMth_ap (ty : Store → Vd → Bool) (M : Store → Vd → List Vd → R (Vd × Store)) : vMth ty M f fa ρ st = (f ρ st >>= fun o => if ty o.2 o.1 = true then fa ρ o.2 >>= fun a => M a.2 o.1 a.1 else .bad) := rfl
@[simp] theorem setsV_nil (vs : List Vd) : setsV ρ [] vs = ρ := by cases vs <;> rfl
@[simp] theorem setsV_cons (l : List Nat) (v : Vd) (vs : List Vd) : setsV ρ (i :: l) (v :: vs) = setsV (ρ.set i (some v)) l vs := rfl
end
@[simp] theorem entry_ap (N n : Nat) (lv : Nat → Vd → Store → R (Vd × Store)) (f : FS) (ds : List Vd) (st : Store) (hl : ds.length = n) : entry N n lv f ds st = (f (ds.map some ++ List.replicate (N - n) none) st).only (outM lv st.length) := by
  unfold entry; rw [if_pos hl]
@[simp] theorem outM_rt (lv : Nat → Vd → Store → R (Vd × Store)) (m : Nat) (d : Vd) (ρ : Slots) (st : Store) : outM lv m (.rt d, ρ, st) = lv m d st := rfl
@[simp] theorem outM_nx (lv : Nat → Vd → Store → R (Vd × Store)) (m : Nat) (ρ : Slots) (st : Store) : outM lv m (.nx, ρ, st) = lv m (.p .none) st := rfl
@[simp] theorem leaveF_p (m : Nat) (d : PyData) (st : Store) : leaveF m (.p d) st = .ok (.p d, st.take m) := rfl
@[simp] theorem leaveN_p (m : Nat) (d : PyData) (st : Store) : leaveN m (.p d) st = .ok (.p d, st.take m) := rfl
@[simp] theorem leaveN_new (st : Store) (ob : Ob) : leaveN st.length (.loc st.length) (st ++ [ob]) = .ok (.loc st.length, st ++ [ob]) := by
  simp [leaveN]
@[simp] theorem peek_p (st : Store) (d : PyData) : peek st (.p d) = .ok d := rfl
@[simp] theorem frz_p (st : Store) (d : PyData) : frz st (.p d) = .ok (d, st) := rfl
theorem peek_lst {st : Store} {k : Nat} {l : List PyData} (h : st[k]? = some (.lst l)) : peek st (.loc k) = .ok (.list l) := by simp [peek, h]
@[simp] theorem peekL_nil (st : Store) : peekL st [] = .ok [] := rfl
@[simp] theorem peekL_cons (st : Store) (v : Vd) (vs : List Vd) : peekL st (v :: vs) = (peek st v >>= fun a => peekL st vs >>= fun b => .ok (a :: b)) := rfl
@[simp] theorem frzL_nil (st : Store) : frzL [] st = .ok ([], st) := rfl
@[simp] theorem frzL_cons (st : Store) (v : Vd) (vs : List Vd) : frzL (v :: vs) st = (frz st v >>= fun a => frzL vs a.2 >>= fun b => .ok (a.1 :: b.1, b.2)) := rfl
@[simp] theorem one_ap (o : PyData → R PyData) (d : PyData) : one o [d] = o d := rfl
@[simp] theorem srcOf_lst (st : Store) (ds : List PyData) : srcOf st (.p (.list ds)) = .ok ⟨ds, none⟩ := rfl
@[simp] theorem srcOf_tup (st : Store) (ds : List PyData) : srcOf st (.p (.tuple ds)) = .ok ⟨ds, none⟩ := rfl
@[simp] theorem srcOk (ds : List PyData) (st : Store) : Src.Ok ⟨ds, none⟩ st = True := rfl
@[simp] theorem obP_lst (l : List PyData) : obP (.lst l) = .list l := rfl
@[simp] theorem obP_dct (t : Bool) (l : List (PyData × PyData)) : obP (.dct t l) = .dict l := rfl
@[simp] theorem itemsOf_lst (l : List PyData) : itemsOf (.list l) = some l := rfl
@[simp] theorem itemsOf_tup (l : List PyData) : itemsOf (.tuple l) = some l := rfl
@[simp] theorem optR_some {α : Type} (a : α) : optR (some a) = .ok a := rfl
@[simp] theorem optR_none {α : Type} : (optR none : R α) = .bad := rfl
@[simp] theorem addP_int (i j : Int) : addP (.int i) (.int j) = .ok (.int (i + j)) := rfl
@[simp] theorem intP_int (C : Int → Int → Prop) [∀ i j, Decidable (C i j)] (g : Int → Int → PyData) (i j : Int) : intP C g (.int i) (.int j) = if C i j then .ok (g i j) else .bad := rfl
@[simp] theorem mulP_int (i j : Int) : mulP (.int i) (.int j) = if PySem.IntMulOk i j then .ok (.int (i * j)) else .bad := rfl
@[simp] theorem absP_int (i : Int) : absP (.int i) = .ok (.int (i.natAbs : Int)) := by
  show R.ok (PyData.int _) = _
  congr 2; split <;> omega
@[simp] theorem lenP_lst (l : List PyData) : lenP (.list l) = .ok (.int l.length) := rfl
@[simp] theorem lenP_tup (l : List PyData) : lenP (.tuple l) = .ok (.int l.length) := rfl
@[simp] theorem intP1_int (i : Int) : intP1 (.int i) = .ok (.int i) := rfl
@[simp] theorem tupleP_lst (l : List PyData) : tupleP (.list l) = .ok (.tuple l) := rfl
@[simp] theorem tupleP_tup (l : List PyData) : tupleP (.tuple l) = .ok (.tuple l) := rfl
@[simp] theorem addI_int (i j : Int) : addI (.int i) (.int j) = .ok (.int (i + j)) := rfl
@[simp] theorem subI_int (i j : Int) : subI (.int i) (.int j) = .ok (.int (i - j)) := rfl
@[simp] theorem ixD_lst (st : Store) (l : List PyData) (i : Int) : ixD st (.p (.list l)) (.p (.int i)) = optR (atI l i) := rfl
@[simp] theorem ixD_tup (st : Store) (l : List PyData) (i : Int) : ixD st (.p (.tuple l)) (.p (.int i)) = optR (atI l i) := rfl
theorem ixD_loc {st : Store} {k : Nat} {l : List PyData} (h : st[k]? = some (.lst l)) (i : Int) : ixD st (.loc k) (.p (.int i)) = optR (atI l i) := by
  simp [ixD, dctOf, h, peek, idxP]
theorem atI_get {l : List PyData} {j : Nat} {d : PyData} (h : l[j]? = some d) : atI l (j : Int) = some d := atI_nat h
@[simp] theorem eqv_int (i j : Int) : PyData.eqv (.int i) (.int j) = decide (i = j) := by simp only [PyData.eqv]; rw [Bool.eq_iff_iff]; simp
@[simp] theorem shaped_int (i : Int) : SeqAt.shaped (.int i) = true := by first | rfl | simp [SeqAt.shaped]
@[simp] theorem shaped_bool (i : Bool) : SeqAt.shaped (.bool i) = true := by first | rfl | simp [SeqAt.shaped]
@[simp] theorem shaped_none : SeqAt.shaped .none = true := by first | rfl | simp [SeqAt.shaped]
@[simp] theorem eqP_int (n : Bool) (i j : Int) : eqP n (.int i) (.int j) = .ok (.bool (decide (i = j) != n)) := by simp [eqP]
theorem ord_int (i j : Int) : OrdOk (.int i) (.int j) := by simp [OrdOk, PySem.W.alike, isNone]
@[simp] theorem ltP_int (i j : Int) : ltP (.int i) (.int j) = .ok (.bool (decide (i < j))) := by simp [ltP, ord_int, PySem.W.dataLt_int]
@[simp] theorem gtP_int (i j : Int) : gtP (.int i) (.int j) = .ok (.bool (decide (j < i))) := by simp [gtP, ord_int, PySem.W.dataLt_int]
@[simp] theorem leP_int (i j : Int) : leP (.int i) (.int j) = .ok (.bool (decide (i ≤ j))) := by simp [leP, ord_int, PySem.W.dataLt_int, ← Int.not_lt]
@[simp] theorem geP_int (i j : Int) : geP (.int i) (.int j) = .ok (.bool (decide (j ≤ i))) := by simp [geP, ord_int, PySem.W.dataLt_int, ← Int.not_lt]
@[simp] theorem maxP_int (i j : Int) : maxP [.int i, .int j] = .ok (.int (max i j)) := by
  show R.ok (PyData.int (if j > i then j else i)) = _
  congr 2; split <;> omega
@[simp] theorem minP_int (i j : Int) : minP [.int i, .int j] = .ok (.int (min i j)) := by
  show R.ok (PyData.int (if j < i then j else i)) = _
  congr 2; split <;> omega
@[simp] theorem sumP_lst (ns : List Int) : sumP (.list (ns.map .int)) = .ok (.int ns.sum) := by simp [sumP, asInts_map]
@[simp] theorem sumP_tup (ns : List Int) : sumP (.tuple (ns.map .int)) = .ok (.int ns.sum) := by simp [sumP, asInts_map]
@[simp] theorem truP_bool (b : Bool) : truP (.bool b) = .ok b := rfl
@[simp] theorem isiP_int (i : Int) (T : String) : isiP T (.int i) = .ok (.bool (tyLe "int" T)) := rfl

theorem putS_lst {st : Store} {k : Nat} {ds : List PyData} {n : Int} {j : Nat} {d : PyData} (h : st[k]? = some (.lst ds)) (hj : ixN ds.length n = some j) : putS st (.loc k) (.int n) d = .ok (st.set k (.lst (ds.set j d))) := by
  unfold putS; simp only [h, hj]
theorem putS_dct {st : Store} {k : Nat} {t : Bool} {ds : List (PyData × PyData)} {i d : PyData} (h : st[k]? = some (.dct t ds)) (hk : keyB t i = true) (hl : ds.length < LIM) : putS st (.loc k) i d = .ok (st.set k (.dct t (putP ds i d))) := by
  unfold putS; simp only [h]; exact if_pos ⟨hk, hl⟩
theorem set_get {st : Store} {k : Nat} (h : k < st.length) (ob : Ob) : (st.set k ob)[k]? = some ob := by
  rw [List.getElem?_set_self h]
theorem ixD_dct {st : Store} {k : Nat} {t : Bool} {ds : List (PyData × PyData)} {i : PyData} (h : st[k]? = some (.dct t ds)) (hk : keyB t i = true) : ixD st (.loc k) (.p i) = optR (getP ds i) := by
  simp [ixD, dctOf, h, peek, hk]
@[simp] theorem wipeV_nil (ρ : Slots) : wipeV ρ [] = ρ := rfl
@[simp] theorem wipeV_cons (ρ : Slots) (v : Nat) (vs : List Nat) : wipeV ρ (v :: vs) = (wipeV ρ vs).set v none := rfl
theorem cutD_to {α : Type} (xs : List α) (i : Int) (h : 0 ≤ i) : cutD xs none (some i) = xs.take i.toNat := by
  obtain ⟨n, rfl⟩ : ∃ n : Nat, i = n := ⟨i.toNat, by omega⟩
  unfold cutD
  rw [HT.sIx_none, HT.sIx_nat, List.drop_zero, Nat.sub_zero, Int.toNat_natCast]
  rcases Nat.le_total n xs.length with h | h
  · rw [Nat.min_eq_left h]
  · rw [Nat.min_eq_right h, List.take_length, List.take_of_length_le h]
theorem cutD_from {α : Type} (xs : List α) (i : Int) (h : 0 ≤ i) : cutD xs (some i) none = xs.drop i.toNat := by
  obtain ⟨n, rfl⟩ : ∃ n : Nat, i = n := ⟨i.toNat, by omega⟩
  unfold cutD
  rw [HT.sIx_none, HT.sIx_nat, Int.toNat_natCast]
  rcases Nat.le_total n xs.length with h | h
  · rw [Nat.min_eq_left h, List.take_of_length_le (by simp)]
  · rw [Nat.min_eq_right h, List.drop_length, List.drop_eq_nil_of_le h]; simp
@[simp] theorem slP_to (xs : List PyData) (i : Int) (h : 0 ≤ i) : slP (.list xs) none (some i) = .ok (.list (xs.take i.toNat)) := by simp [slP, cutD_to _ _ h]
@[simp] theorem slP_from (xs : List PyData) (i : Int) (h : 0 ≤ i) : slP (.list xs) (some i) none = .ok (.list (xs.drop i.toNat)) := by simp [slP, cutD_from _ _ h]
@[simp] theorem slP_toT (xs : List PyData) (i : Int) (h : 0 ≤ i) : slP (.tuple xs) none (some i) = .ok (.tuple (xs.take i.toNat)) := by simp [slP, cutD_to _ _ h]
@[simp] theorem slP_fromT (xs : List PyData) (i : Int) (h : 0 ≤ i) : slP (.tuple xs) (some i) none = .ok (.tuple (xs.drop i.toNat)) := by simp [slP, cutD_from _ _ h]
theorem addP_lst {a b : List PyData} (h : a.length + b.length ≤ LIM) : addP (.list a) (.list b) = .ok (.list (a ++ b)) := if_pos h
theorem addP_tup {a b : List PyData} (h : a.length + b.length ≤ LIM) : addP (.tuple a) (.tuple b) = .ok (.tuple (a ++ b)) := if_pos h
@[simp] theorem LIM_eq : LIM = 16777216 := rfl
/-! ### loops -/
@[simp] theorem lcG_nil (ds : List PyData) (gt : FG) (tt : FT) (fe : FE) (ρ : Slots) (st : Store) : lcG ⟨ds, none⟩ gt tt fe ρ [] st = .ok ([], st) := by
  unfold lcG; exact if_pos trivial
theorem lcG_cons (ds : List PyData) (gt : FG) (tt : FT) (fe : FE) (ρ : Slots) (d : PyData) (r : List PyData) (st : Store) : lcG ⟨ds, none⟩ gt tt fe ρ (d :: r) st =
    (gt (.p d) ρ st >>= fun ρ1 => tt ρ1 st >>= fun b => if b.1 = true then fe ρ1 b.2 >>= fun a => frz a.2 a.1 >>= fun x => lcG ⟨ds, none⟩ gt tt fe ρ r x.2 >>= fun y => .ok (x.1 :: y.1, y.2) else lcG ⟨ds, none⟩ gt tt fe ρ r b.2) := by
  rw [lcG]; exact if_pos trivial
/-- every item is kept, nothing is changed -/
theorem lcG_map {src : List PyData} {gt : FG} {fe : FE} {ρ : Slots} {st : Store} (g : PyData → PyData) : ∀ {ds : List PyData}, (∀ d ∈ ds, ∃ ρ1, gt (.p d) ρ st = .ok ρ1 ∧ fe ρ1 st = .ok (.p (g d), st)) → lcG ⟨src, none⟩ gt fYes fe ρ ds st = .ok (ds.map g, st)
  | [], _ => by simp
  | d :: r, h => by
    obtain ⟨ρ1, h1, h2⟩ := h d List.mem_cons_self
    rw [lcG_cons, h1]
    simp [h2, lcG_map g (fun x hx => h x (List.mem_cons_of_mem _ hx))]
theorem lcG_mapA {α : Type} {src : List PyData} {gt : FG} {fe : FE} {ρ : Slots} {st : Store} (c g : α → PyData) : ∀ {ds : List α}, (∀ d ∈ ds, ∃ ρ1, gt (.p (c d)) ρ st = .ok ρ1 ∧ fe ρ1 st = .ok (.p (g d), st)) → lcG ⟨src, none⟩ gt fYes fe ρ (ds.map c) st = .ok (ds.map g, st)
  | [], _ => by simp
  | d :: r, h => by
    obtain ⟨ρ1, h1, h2⟩ := h d List.mem_cons_self
    rw [List.map_cons, lcG_cons, h1]
    simp [h2, lcG_mapA c g (fun x hx => h x (List.mem_cons_of_mem _ hx))]
/-- some are kept, nothing is changed -/
theorem lcG_filter {src : List PyData} {gt : FG} {tt : FT} {fe : FE} {ρ : Slots} {st : Store} (b : PyData → Bool) (g : PyData → PyData) : ∀ {ds : List PyData}, (∀ d ∈ ds, ∃ ρ1, gt (.p d) ρ st = .ok ρ1 ∧ tt ρ1 st = .ok (b d, st) ∧ (b d = true → fe ρ1 st = .ok (.p (g d), st))) →
    lcG ⟨src, none⟩ gt tt fe ρ ds st = .ok ((ds.filter b).map g, st)
  | [], _ => by simp
  | d :: r, h => by
    obtain ⟨ρ1, h1, h2, h3⟩ := h d List.mem_cons_self
    have ih := lcG_filter (src := src) b g (fun x hx => h x (List.mem_cons_of_mem _ hx))
    rw [lcG_cons, h1]
    cases hb : b d with
    | true => simp [h2, hb, h3 hb, ih]
    | false => simp [h2, hb, ih]
/-- every item is kept, the store moves within P -/
theorem lcG_inv {src : List PyData} {gt : FG} {fe : FE} {ρ : Slots} (P : Store → Prop) (Q : PyData → Prop) : ∀ {ds : List PyData} {st : Store}, (∀ d ∈ ds, ∀ st, P st → ∃ ρ1 v st', gt (.p d) ρ st = .ok ρ1 ∧ fe ρ1 st = .ok (.p v, st') ∧ Q v ∧ P st') → P st →
    ∃ l st', lcG ⟨src, none⟩ gt fYes fe ρ ds st = .ok (l, st') ∧ l.length = ds.length ∧ (∀ v ∈ l, Q v) ∧ P st'
  | [], st, _, hP => ⟨[], st, by simp, rfl, by simp, hP⟩
  | d :: r, st, h, hP => by
    obtain ⟨ρ1, v, st1, h1, h2, hq, hp⟩ := h d List.mem_cons_self st hP
    obtain ⟨l, st2, e, hl, hv, hp2⟩ := lcG_inv (src := src) P Q (fun x hx => h x (List.mem_cons_of_mem _ hx)) hp
    exact ⟨v :: l, st2, by rw [lcG_cons, h1]; simp [h2, e], by simp [hl], by simpa using ⟨hq, hv⟩, hp2⟩
@[simp] theorem forG_nil (ds : List PyData) (gt : FG) (body : FS) (ρ : Slots) (st : Store) : forG ⟨ds, none⟩ gt body [] ρ st = .ok (.nx, ρ, st) := by
  unfold forG; exact if_pos trivial
theorem forG_cons (ds : List PyData) (gt : FG) (body : FS) (d : PyData) (r : List PyData) (ρ : Slots) (st : Store) : forG ⟨ds, none⟩ gt body (d :: r) ρ st =
    (gt (.p d) ρ st >>= fun ρ1 => body ρ1 st >>= fun a => match a.1 with
      | .nx => forG ⟨ds, none⟩ gt body r a.2.1 a.2.2
      | .ct => forG ⟨ds, none⟩ gt body r a.2.1 a.2.2
      | .bk => .ok (.nx, a.2)
      | o => .ok (o, a.2)) := by
  rw [forG]; exact if_pos trivial
/-- a loop that runs to its end; P by the items behind -/
theorem forG_inv {src : List PyData} {gt : FG} {body : FS} (P : List PyData → Slots → Store → Prop) : ∀ {ds : List PyData} {ρ : Slots} {st : Store},
    (∀ d r ρ st, P (d :: r) ρ st → ∃ ρ1 ρ' st', gt (.p d) ρ st = .ok ρ1 ∧ (body ρ1 st = .ok (.nx, ρ', st') ∨ body ρ1 st = .ok (.ct, ρ', st')) ∧ P r ρ' st') → P ds ρ st →
    ∃ ρ' st', forG ⟨src, none⟩ gt body ds ρ st = .ok (.nx, ρ', st') ∧ P [] ρ' st'
  | [], ρ, st, _, hP => ⟨ρ, st, by simp, hP⟩
  | d :: r, ρ, st, h, hP => by
    obtain ⟨ρ1, ρ', st', h1, h2, hp⟩ := h d r ρ st hP
    obtain ⟨ρ2, st2, e, hp2⟩ := forG_inv (src := src) P h hp
    refine ⟨ρ2, st2, ?_, hp2⟩
    rw [forG_cons, h1]
    rcases h2 with h2 | h2 <;> simp [h2, e]
/-- the same by the turn's number -/
theorem forG_ix {src : List PyData} {gt : FG} {body : FS} (P : Nat → Slots → Store → Prop) {ds : List PyData} {ρ : Slots} {st : Store}
    (h : ∀ i d ρ st, ds[i]? = some d → P i ρ st → ∃ ρ1 ρ' st', gt (.p d) ρ st = .ok ρ1 ∧ (body ρ1 st = .ok (.nx, ρ', st') ∨ body ρ1 st = .ok (.ct, ρ', st')) ∧ P (i + 1) ρ' st') (h0 : P 0 ρ st) :
    ∃ ρ' st', forG ⟨src, none⟩ gt body ds ρ st = .ok (.nx, ρ', st') ∧ P ds.length ρ' st' := by
  obtain ⟨ρ', st', e, i, hi, hp⟩ := forG_inv (src := src) (gt := gt) (body := body) (fun r ρ st => ∃ i, ds.drop i = r ∧ i ≤ ds.length ∧ P i ρ st) (ds := ds) (ρ := ρ) (st := st) (fun d r ρ st ⟨i, hd, hi, hp⟩ => by
    have hlt : i < ds.length := by
      rcases Nat.lt_or_ge i ds.length with z | z
      · exact z
      · rw [List.drop_eq_nil_of_le z] at hd; cases hd
    rw [List.drop_eq_getElem_cons hlt] at hd
    injection hd with a b
    obtain ⟨ρ1, ρ', st', h1, h2, h3⟩ := h i d ρ st (by rw [List.getElem?_eq_getElem hlt, a]) hp
    exact ⟨ρ1, ρ', st', h1, h2, i + 1, b, hlt, h3⟩) ⟨0, by simp, Nat.zero_le _, h0⟩
  refine ⟨ρ', st', e, ?_⟩
  have : i = ds.length := by
    have := congrArg List.length hi
    simp at this
    omega
  rw [← this]; exact hp.2
end VL

/-! the draws, second kind: [turn, left, cells] -/
namespace VL
open PySem PySem.Spec PyProof.Rows L2
noncomputable def dB_open : FM := entry 3 1 leaveN (sSeq (sSet 1 (vFz (nLc (iSeq (vSl (vVar 0) (oNone) (oSome (vC (.int 63))))) (gSet 2) (fYes) (vCall (one absP) (aCons (vCall (one intP1) (aCons (vVar 2) (aNil))) (aNil))) [2])))
  (sRet (vOwn (nLst (aCons (vC (.int 0)) (aCons (vC (.int 0)) (aCons (vBin addP (vVar 1) (vFz (nLst (aCons (vC (.int 0)) (aNil))))) (aNil))))))))
noncomputable def dB_mixed : FM := entry 3 2 leaveF (sSeq (sSet 2 (vBin modP (vBin addP (vBin addP (vBin mulP (vBin modP (vVar 0) (vBin subP (vBin powP (vC (.int 2)) (vC (.int 61))) (vC (.int 1)))) (vC (.int 6364136223846793005))) (vBin mulP (vVar 1) (vC (.int 1442695040888963407)))) (vC (.int 97))) (vBin powP (vC (.int 2)) (vC (.int 61)))))
  (sSeq (sSet 2 (vBin modP (vBin mulP (vBin xorP (vVar 2) (vBin shrP (vVar 2) (vC (.int 29)))) (vC (.int 3935559000370003845))) (vBin powP (vC (.int 2)) (vC (.int 61)))))
  (sRet (vBin modP (vBin mulP (vBin xorP (vVar 2) (vBin shrP (vVar 2) (vC (.int 31)))) (vC (.int 2862933555777941757))) (vBin powP (vC (.int 2)) (vC (.int 61)))))))
noncomputable def dB_draw : FM := entry 6 2 leaveF (sSeq (sAsg (vVar 0) (gTupV 3 (gsCons (gSet 2) (gsCons (gSet 3) (gsCons (gSet 4) (gsNil))))))
  (sSeq (sIf (asB (vBin ltP (vVar 3) (vVar 1))) (sSeq (sSet 5 (vBinD ixD (vVar 4) (vBin modP (vVar 2) (vCall (one lenP) (aCons (vVar 4) (aNil))))))
  (sSeq (sSet 3 (vIf (vAnd (asB (vBin ltP (vVar 2) (vCall (one lenP) (aCons (vVar 4) (aNil))))) (asB (vBin geP (vVar 5) (vBin powP (vC (.int 10)) (vC (.int 18)))))) (vVar 5) (vDef 2 dB_mixed (aCons (vVar 5) (aCons (vVar 2) (aNil))))))
  (sSet 2 (vBin addP (vVar 2) (vC (.int 1)))))) (sNil))
  (sSeq (sPut (vVar 2) (vVar 0) (vC (.int 0)))
  (sSeq (sPut (vBin fdivP (vVar 3) (vVar 1)) (vVar 0) (vC (.int 1)))
  (sRet (vBin modP (vVar 3) (vVar 1)))))))
theorem mul_okL {a b : Int} (h : a.natAbs < 2 ^ 63 := by decide) : PySem.IntMulOk b a := by
  have : IntMulOk b a := by
    refine CMul.ok (.inr ?_)
    omega
  exact this
theorem CPow_small {i j : Int} (h : 0 ≤ j := by decide) (h1 : j ≤ 1000000 := by decide) (h2 : i.natAbs < 2 ^ 64 := by decide) : CPow i j := ⟨h, h1, h2⟩
def mixI (c t : Int) : Int :=
  let n := (c % (2 ^ 61 - 1) * 6364136223846793005 + t * 1442695040888963407 + 97) % 2 ^ 61
  let n := (Builtin.bitXor n (n / 2 ^ 29)) * 3935559000370003845 % 2 ^ 61
  (Builtin.bitXor n (n / 2 ^ 31)) * 2862933555777941757 % 2 ^ 61
theorem mixed_ok (c t : Int) (st : Store) : dB_mixed [.p (.int c), .p (.int t)] st = .ok (.p (.int (mixI c t)), st) := by
  unfold dB_mixed
  have e1 : CPow 2 61 := CPow_small
  simp [mul_okL, e1]
  rfl
/-- the draws' list -/
def DrB (ob : Ob) : Prop := ∃ (t l : Int) (cells : List Int), ob = .lst [.int t, .int l, .list (cells.map .int)] ∧ cells ≠ []
theorem drawB_ok {st : Store} {k : Nat} {ob : Ob} {size : Int} (hk : st[k]? = some ob) (hd : DrB ob) (h0 : 0 < size) (h1 : size < 2 ^ 60) :
    ∃ v ob', dB_draw [.loc k, .p (.int size)] st = .ok (.p (.int v), st.set k ob') ∧ DrB ob' ∧ 0 ≤ v ∧ v < size := by
  obtain ⟨t, l, cells, rfl, hc⟩ := hd
  have hkl : k < st.length := (List.getElem?_eq_some_iff.mp hk).1
  have hlen : 0 < (cells.length : Int) := by
    have := List.length_pos_iff.mpr hc
    omega
  have hlN : 0 < cells.length := List.length_pos_iff.mpr hc
  have hdiv : ∀ l : Int, CDivW l size := fun l => wide_div h0 (b := 60) (by omega) (by decide) (by decide)
  have e1 : CPow 10 18 := CPow_small
  have hp : peek st (.loc k) = .ok (.list [.int t, .int l, .list (cells.map .int)]) := peek_lst hk
  obtain ⟨c, hcc⟩ : ∃ c : Int, atI (cells.map PyData.int) (t % (cells.length : Int)) = some (.int c) := by
    have h1 := Int.emod_nonneg t (Int.ne_of_gt hlen)
    have h2 := Int.emod_lt_of_pos t hlen
    obtain ⟨j, hj⟩ : ∃ j : Nat, t % (cells.length : Int) = (j : Int) := ⟨(t % (cells.length : Int)).toNat, by omega⟩
    rw [hj] at h2 ⊢
    have hj2 : j < cells.length := by omega
    exact ⟨cells[j], atI_get (by rw [List.getElem?_map, List.getElem?_eq_getElem hj2]; rfl)⟩
  have hsp : ∀ ob, (st.set k ob).take st.length = st.set k ob := fun ob => List.take_of_length_le (by simp)
  have p0 : ∀ d, putS st (.loc k) (.int 0) d = .ok (st.set k (.lst [d, .int l, .list (cells.map .int)])) := fun d => putS_lst hk (j := 0) (by rfl)
  have p1 : ∀ a b c d, putS (st.set k (.lst [a, b, c])) (.loc k) (.int 1) d = .ok (st.set k (.lst [a, d, c])) := fun a b c d => by
    rw [putS_lst (set_get hkl _) (j := 1) (by rfl)]; simp
  have fin : ∀ (t' l' : Int), dB_draw [.loc k, .p (.int size)] st = .ok (.p (.int (l' % size)), st.set k (.lst [.int t', .int (l' / size), .list (cells.map .int)])) →
      ∃ v ob', dB_draw [.loc k, .p (.int size)] st = .ok (.p (.int v), st.set k ob') ∧ DrB ob' ∧ 0 ≤ v ∧ v < size := fun t' l' e =>
    ⟨l' % size, _, e, ⟨t', l' / size, cells, rfl, hc⟩, Int.emod_nonneg _ (Int.ne_of_gt h0), Int.emod_lt_of_pos _ h0⟩
  by_cases hl : l < size
  · by_cases h2 : t < (cells.length : Int) ∧ 10 ^ 18 ≤ c
    · refine fin (t + 1) c ?_
      have h3 : (1000000000000000000 : Int) ≤ c := h2.2
      simp [dB_draw, hp, hl, hlen, hlN, hcc, e1, h2.1, h3, p0, p1, hdiv, h0, hsp]
    · refine fin (t + 1) (mixI c t) ?_
      have h3 : t < (cells.length : Int) → ¬ (1000000000000000000 : Int) ≤ c := fun a b => h2 ⟨a, b⟩
      by_cases h4 : t < (cells.length : Int)
      · simp [dB_draw, hp, hl, hlen, hlN, hcc, e1, h4, h3 h4, p0, p1, hdiv, h0, hsp, mixed_ok]
      · simp [dB_draw, hp, hl, hlen, hlN, hcc, e1, h4, p0, p1, hdiv, h0, hsp, mixed_ok]
  · refine fin t l ?_
    simp [dB_draw, hp, hl, p0, p1, hdiv, h0, hsp]
theorem openB_ok (ns : List Int) (st : Store) : ∃ ob, dB_open [.p (.list (ns.map .int))] st = .ok (.loc st.length, st ++ [ob]) ∧ DrB ob := by
  obtain ⟨L, hm, hL⟩ : ∃ L : List Int, lcG ⟨List.take 63 (ns.map .int), none⟩ (gSet 2) fYes (vCall (one absP) (aCons (vCall (one intP1) (aCons (vVar 2) (aNil))) (aNil))) [some (.p (.list (ns.map .int))), none, none] (List.take 63 (ns.map .int)) st = .ok (L.map .int, st) ∧ L.length ≤ 63 := by
    refine ⟨(ns.take 63).map (fun n : Int => (n.natAbs : Int)), ?_, by rw [List.length_map, List.length_take]; exact Nat.min_le_left _ _⟩
    rw [← List.map_take, lcG_mapA PyData.int (fun n : Int => .int (n.natAbs : Int)) fun d hd => ⟨_, rfl, by simp⟩, List.map_map]
    rfl
  refine ⟨.lst [.int 0, .int 0, .list ((L ++ [0]).map .int)], ?_, ⟨0, 0, _, rfl, by simp⟩⟩
  have h1 : L.length ≤ 16777216 := Nat.le_trans hL (by decide)
  have h2 : addP (.list (L.map .int)) (.list [.int 0]) = .ok (.list (L.map .int ++ [.int 0])) := addP_lst (by simp; omega)
  simp [dB_open, hm, h1, h2]
end VL

/-! plain facts: ranges, maxima, minima, first places -/
namespace VL
open PySem PySem.Spec PyProof.Rows L2
@[simp] theorem rangeD_nat (n : Nat) : rangeD 0 (n : Int) = (List.range n).map fun (i : Nat) => PyData.int (i : Int) := by
  unfold rangeD
  simp
theorem range_get {n i : Nat} {d : PyData} (h : ((List.range n).map fun (i : Nat) => PyData.int (i : Int))[i]? = some d) : i < n ∧ d = .int i := by
  rw [List.getElem?_map] at h
  cases e : (List.range n)[i]? with
  | none => rw [e] at h; cases h
  | some j =>
    rw [e] at h
    obtain ⟨h1, h2⟩ := List.getElem?_eq_some_iff.mp e
    rw [List.getElem_range] at h2
    cases h
    exact ⟨by simpa using h1, by rw [h2]⟩
theorem mem_range {n : Nat} {d : PyData} (h : d ∈ (List.range n).map fun (i : Nat) => PyData.int (i : Int)) : ∃ i : Nat, i < n ∧ d = .int i := by
  obtain ⟨i, hi, rfl⟩ := List.mem_map.mp h
  exact ⟨i, List.mem_range.mp hi, rfl⟩
theorem atI_range {α : Type} (f : Nat → α) {n i : Nat} (h : i < n) : atI ((List.range n).map f) (i : Int) = some (f i) :=
  atI_nat (by rw [List.getElem?_map, List.getElem?_range h]; rfl)
theorem in62 {i : Int} (h : 0 ≤ i) (h1 : i ≤ 1000000) : In62 i := by unfold In62; omega
/-- the maximum of a and f's first values -/
def pm (a : Int) (f : Nat → Int) (n : Nat) : Int := ((List.range n).map f).foldl max a
def ps (f : Nat → Int) (n : Nat) : Int := ((List.range n).map f).sum
@[simp] theorem pm_zero (a : Int) (f : Nat → Int) : pm a f 0 = a := rfl
@[simp] theorem pm_succ (a : Int) (f : Nat → Int) (n : Nat) : pm a f (n + 1) = max (pm a f n) (f n) := by
  unfold pm; rw [List.range_succ, List.map_append, List.foldl_append]; rfl
@[simp] theorem ps_zero (f : Nat → Int) : ps f 0 = 0 := rfl
@[simp] theorem ps_succ (f : Nat → Int) (n : Nat) : ps f (n + 1) = ps f n + f n := by
  unfold ps; rw [List.range_succ, List.map_append, List.sum_append]; simp
theorem pm_le {a : Int} {f : Nat → Int} {b : Int} : ∀ {n : Nat}, pm a f n ≤ b ↔ a ≤ b ∧ ∀ j, j < n → f j ≤ b
  | 0 => by simp
  | n + 1 => by
    rw [pm_succ, Int.max_le, pm_le]
    constructor
    · rintro ⟨⟨h1, h2⟩, h3⟩
      refine ⟨h1, fun j hj => ?_⟩
      rcases Nat.lt_succ_iff_lt_or_eq.mp hj with z | z
      · exact h2 j z
      · rw [z]; exact h3
    · rintro ⟨h1, h2⟩
      exact ⟨⟨h1, fun j hj => h2 j (Nat.lt_succ_of_lt hj)⟩, h2 n (Nat.lt_succ_self n)⟩
theorem pm_ge {a : Int} {f : Nat → Int} {n j : Nat} (h : j < n) : f j ≤ pm a f n := (pm_le.mp (Int.le_refl (pm a f n))).2 j h
theorem pm_ge0 {a : Int} {f : Nat → Int} {n : Nat} : a ≤ pm a f n := (pm_le.mp (Int.le_refl (pm a f n))).1
theorem pm_first {f : Nat → Int} {m : Nat} : ((List.range m).map fun j => f (j + 1)).foldl max (f 0) = pm (f 0) f (m + 1) := by
  unfold pm
  rw [List.range_succ_eq_map, List.map_cons, List.foldl_cons, Int.max_self, List.map_map]; rfl
theorem pm_start {a : Int} {f : Nat → Int} {n : Nat} (hn : 0 < n) (h : ∀ j, j < n → a ≤ f j) : pm a f n = pm (f 0) f n := by
  apply Int.le_antisymm
  · exact pm_le.mpr ⟨Int.le_trans (h 0 hn) (pm_ge hn), fun j hj => pm_ge hj⟩
  · exact pm_le.mpr ⟨pm_ge hn, fun j hj => pm_ge hj⟩
theorem pm_row {a : Int} {f : Nat → Int} {b : Int} (n : Nat) (h : b ≤ a) : pm a f n = max a (pm b f n) := by
  apply Int.le_antisymm
  · exact pm_le.mpr ⟨Int.le_max_left _ _, fun j hj => Int.le_trans (pm_ge hj) (Int.le_max_right _ _)⟩
  · refine Int.max_le.mpr ⟨pm_ge0, pm_le.mpr ⟨Int.le_trans h pm_ge0, fun j hj => pm_ge hj⟩⟩
/-- the first place of the least of f's values up to m -/
def am (f : Nat → Int) : Nat → Nat
  | 0 => 0
  | k + 1 => if f (k + 1) < f (am f k) then k + 1 else am f k
theorem am_succ (f : Nat → Int) (k : Nat) : am f (k + 1) = if f (k + 1) < f (am f k) then k + 1 else am f k := rfl
theorem am_spec (f : Nat → Int) : ∀ m, am f m ≤ m ∧ (∀ j, j ≤ m → f (am f m) ≤ f j) ∧ ∀ j, j < am f m → f (am f m) < f j
  | 0 => by
    refine ⟨Nat.le_refl _, fun j hj => ?_, fun j hj => ?_⟩
    · have : j = 0 := by omega
      rw [this]; exact Int.le_refl _
    · simp [am] at hj
  | m + 1 => by
    obtain ⟨h1, h2, h3⟩ := am_spec f m
    unfold am
    split
    · rename_i h
      refine ⟨Nat.le_refl _, fun j hj => ?_, fun j hj => ?_⟩
      · rcases Nat.lt_or_ge j (m + 1) with z | z
        · have := h2 j (by omega); omega
        · have : j = m + 1 := by omega
          rw [this]; exact Int.le_refl _
      · have := h2 j (by omega); omega
    · rename_i h
      refine ⟨by omega, fun j hj => ?_, h3⟩
      rcases Nat.lt_or_ge j (m + 1) with z | z
      · exact h2 j (by omega)
      · have : j = m + 1 := by omega
        rw [this]; omega
/-- data of at most this depth, without dicts -/
def Shp (n : Nat) (d : PyData) : Prop := d.canLay0 = true ∧ d.depth ≤ n
theorem Shp.int (n : Nat) (i : Int) : Shp n (.int i) := ⟨by simp [PyData.canLay0], by simp [PyData.depth]⟩
theorem Shp.bool (n : Nat) (i : Bool) : Shp n (.bool i) := ⟨by simp [PyData.canLay0], by simp [PyData.depth]⟩
theorem Shp.non (n : Nat) : Shp n .none := ⟨by simp [PyData.canLay0], by simp [PyData.depth]⟩
theorem Shp.all {n : Nat} : ∀ {l : List PyData}, (∀ x ∈ l, Shp n x) → PyData.canLayAll0 l = true ∧ PyData.depthAll l ≤ n
  | [], _ => ⟨by simp [PyData.canLayAll0], by simp [PyData.depthAll]⟩
  | d :: r, h => by
    obtain ⟨h1, h2⟩ := h d List.mem_cons_self
    obtain ⟨h3, h4⟩ := Shp.all fun x hx => h x (List.mem_cons_of_mem _ hx)
    exact ⟨by simp [PyData.canLayAll0, h1, h3], by simp only [PyData.depthAll]; omega⟩
theorem Shp.lst {n : Nat} {l : List PyData} (h : ∀ x ∈ l, Shp n x) : Shp (n + 1) (.list l) := by
  obtain ⟨h1, h2⟩ := Shp.all h
  exact ⟨by simpa [PyData.canLay0] using h1, by simp only [PyData.depth]; omega⟩
theorem Shp.tup {n : Nat} {l : List PyData} (h : ∀ x ∈ l, Shp n x) : Shp (n + 1) (.tuple l) := by
  obtain ⟨h1, h2⟩ := Shp.all h
  exact ⟨by simpa [PyData.canLay0] using h1, by simp only [PyData.depth]; omega⟩
theorem Shp.mono {n m : Nat} {d : PyData} (h : Shp n d) (hm : n ≤ m) : Shp m d := ⟨h.1, Nat.le_trans h.2 hm⟩
theorem Shp.ok {n : Nat} {d : PyData} (h : Shp n d) (hn : n ≤ 64 := by decide) : SeqAt.shaped d = true := by
  unfold SeqAt.shaped
  rw [h.1, decide_eq_true (Nat.le_trans h.2 hn)]; rfl
theorem Shp.ints (n : Nat) (l : List Int) : ∀ x ∈ l.map PyData.int, Shp n x := fun x hx => by
  obtain ⟨i, _, rfl⟩ := List.mem_map.mp hx
  exact .int n i
theorem shaped_ints (l : List Int) : SeqAt.shaped (.list (l.map .int)) = true ∧ SeqAt.shaped (.tuple (l.map .int)) = true := ⟨(Shp.lst (Shp.ints 0 l)).ok, (Shp.tup (Shp.ints 0 l)).ok⟩
theorem mm_ints (l : List Int) : MmOk (l.map .int) := by
  unfold MmOk
  simp [List.all_eq_true, PySem.W.alike, isNone]
theorem shaped_pair (a b : Int) : SeqAt.shaped (.tuple [.int a, .int b]) = true := (shaped_ints [a, b]).2
theorem mm_pairs {α : Type} (f g : α → Int) (l : List α) : MmOk (l.map fun x => .tuple [.int (f x), .int (g x)]) := by
  unfold MmOk
  simp [List.all_eq_true, PySem.W.alike, PySem.W.alikeAll, isNone, shaped_pair]
/-- max(ints), given by their places -/
theorem maxP_row (f : Nat → Int) {n : Nat} (hn : 0 < n) : maxP [.tuple ((List.range n).map fun j => .int (f j))] = .ok (.int (pm (f 0) f n)) ∧ maxP [.list ((List.range n).map fun j => .int (f j))] = .ok (.int (pm (f 0) f n)) := by
  obtain ⟨m, rfl⟩ : ∃ m, n = m + 1 := ⟨n - 1, by omega⟩
  have e : (List.range (m + 1)).map (fun j => PyData.int (f j)) = PyData.int (f 0) :: ((List.range m).map fun j => f (j + 1)).map PyData.int := by
    rw [List.range_succ_eq_map, List.map_cons, List.map_map, List.map_map]; rfl
  have hm : MmOk (PyData.int (f 0) :: ((List.range m).map fun j => f (j + 1)).map PyData.int) := mm_ints (f 0 :: (List.range m).map fun j => f (j + 1))
  constructor <;>
  · simp only [maxP, mmP, itemsOf, e]
    rw [if_pos hm, PySem.W.maxD_ints, pm_first]
/-- min of pairs of a value and its place -/
theorem minP_pairs (f : Nat → Int) (m : Nat) : minP [.list ((List.range (m + 1)).map fun j => .tuple [.int (f j), .int (j : Int)])] = .ok (.tuple [.int (f (am f m)), .int (am f m : Int)]) := by
  have e : (List.range (m + 1)).map (fun (j : Nat) => PyData.tuple [.int (f j), .int (j : Int)]) = PyData.tuple [.int (f 0), .int 0] :: (List.range m).map fun (j : Nat) => PyData.tuple [.int (f (j + 1)), .int ((j + 1 : Nat) : Int)] := by
    rw [List.range_succ_eq_map, List.map_cons, List.map_map]; rfl
  have hm : MmOk ((List.range (m + 1)).map fun (j : Nat) => PyData.tuple [.int (f j), .int (j : Int)]) := mm_pairs _ _ _
  have key : ∀ k, PySem.W.minD (PyData.tuple [.int (f 0), .int 0]) ((List.range k).map fun (j : Nat) => PyData.tuple [.int (f (j + 1)), .int ((j + 1 : Nat) : Int)]) = .tuple [.int (f (am f k)), .int (am f k : Int)] := by
    intro k
    induction k with
    | zero => rfl
    | succ k ih =>
      unfold PySem.W.minD at ih ⊢
      rw [List.range_succ, List.map_append, List.foldl_append, ih]
      simp only [List.map_cons, List.map_nil, List.foldl_cons, List.foldl_nil, PySem.W.dataLt_ii]
      have hle := (am_spec f k).1
      rw [am_succ]
      by_cases h : f (k + 1) < f (am f k)
      · rw [if_pos h, if_pos (by simp [h])]
      · rw [if_neg h, if_neg (by simp; omega)]
  rw [e] at hm ⊢
  simp only [minP, mmP, itemsOf]
  rw [if_pos hm, key m]
/-- min(ints) -/
theorem minP_ints (f : Nat → Int) (m : Nat) : minP [.list ((List.range (m + 1)).map fun j => .int (f j))] = .ok (.int (f (am f m))) := by
  have e : (List.range (m + 1)).map (fun j => PyData.int (f j)) = PyData.int (f 0) :: ((List.range m).map fun j => f (j + 1)).map PyData.int := by
    rw [List.range_succ_eq_map, List.map_cons, List.map_map, List.map_map]; rfl
  have hm : MmOk (PyData.int (f 0) :: ((List.range m).map fun j => f (j + 1)).map PyData.int) := mm_ints (f 0 :: (List.range m).map fun j => f (j + 1))
  have key : ∀ k, ((List.range k).map fun j => f (j + 1)).foldl min (f 0) = f (am f k) := by
    intro k
    induction k with
    | zero => rfl
    | succ k ih =>
      rw [List.range_succ, List.map_append, List.foldl_append, ih]
      simp only [List.map_cons, List.map_nil, List.foldl_cons, List.foldl_nil]
      rw [am_succ]
      split <;> omega
  simp only [minP, mmP, itemsOf, e]
  rw [if_pos hm, PySem.W.minD_ints, key m]
/-- the place of the least -/
theorem idx_am (f : Nat → Int) (m : Nat) : idxOf ((List.range (m + 1)).map fun j => .int (f j)) (.int (f (am f m))) = some (am f m) := by
  obtain ⟨h1, h2, h3⟩ := am_spec f m
  unfold idxOf
  rw [List.findIdx?_eq_some_iff_getElem]
  refine ⟨by simpa using Nat.lt_succ_of_le h1, by simp, fun j hj => ?_⟩
  have := h3 j hj
  simp
  omega
end VL

namespace K59
open PySem PySem.Spec PyProof.Rows L2 VL
def topS (i : Nat) : Stmt := PySem.Challenge.pw_curtaintime_k59_whole_meeting_places.main.body.getD i (.Pass ⟨0, 0, 0, 0⟩)
structure Top (K : PySem.W.Frag) (mg : Str → Option Value) where
  a_sum_of : Addr
  d_sum_of : FuncData
  F_sum_of : Fun K "sum_of" "sum_of" (topS 1) a_sum_of d_sum_of
  b_sum_of : Binds K d_sum_of ["map_told", "place"] []
  g_sum_of : mg "sum_of" = some (.ref a_sum_of)
  a_reach_of : Addr
  d_reach_of : FuncData
  F_reach_of : Fun K "reach_of" "reach_of" (topS 2) a_reach_of d_reach_of
  b_reach_of : Binds K d_reach_of ["map_told", "place"] []
  g_reach_of : mg "reach_of" = some (.ref a_reach_of)
  a_middle : Addr
  d_middle : FuncData
  F_middle : Fun K "middle" "middle" (topS 3) a_middle d_middle
  b_middle : Binds K d_middle ["map_told"] []
  g_middle : mg "middle" = some (.ref a_middle)
  a_centre : Addr
  d_centre : FuncData
  F_centre : Fun K "centre" "centre" (topS 4) a_centre d_centre
  b_centre : Binds K d_centre ["map_told"] []
  g_centre : mg "centre" = some (.ref a_centre)
  a_widest_apart : Addr
  d_widest_apart : FuncData
  F_widest_apart : Fun K "widest_apart" "widest_apart" (topS 5) a_widest_apart d_widest_apart
  b_widest_apart : Binds K d_widest_apart ["map_told"] []
  g_widest_apart : mg "widest_apart" = some (.ref a_widest_apart)
  a__law_open : Addr
  d__law_open : FuncData
  F__law_open : Fun K "_law_open" "_law_open" (topS 7) a__law_open d__law_open
  b__law_open : Binds K d__law_open ["script"] []
  g__law_open : mg "_law_open" = some (.ref a__law_open)
  a__law_mixed : Addr
  d__law_mixed : FuncData
  F__law_mixed : Fun K "_law_mixed" "_law_mixed" (topS 8) a__law_mixed d__law_mixed
  b__law_mixed : Binds K d__law_mixed ["cell", "turn"] []
  g__law_mixed : mg "_law_mixed" = some (.ref a__law_mixed)
  a__law_draw : Addr
  d__law_draw : FuncData
  F__law_draw : Fun K "_law_draw" "_law_draw" (topS 9) a__law_draw d__law_draw
  b__law_draw : Binds K d__law_draw ["draws", "size"] []
  g__law_draw : mg "_law_draw" = some (.ref a__law_draw)
  a__law_int : Addr
  d__law_int : FuncData
  F__law_int : Fun K "_law_int" "_law_int" (topS 10) a__law_int d__law_int
  b__law_int : Binds K d__law_int ["value"] []
  g__law_int : mg "_law_int" = some (.ref a__law_int)
  a__law_map : Addr
  d__law_map : FuncData
  F__law_map : Fun K "_law_map" "_law_map" (topS 11) a__law_map d__law_map
  b__law_map : Binds K d__law_map ["draws", "most"] []
  g__law_map : mg "_law_map" = some (.ref a__law_map)
  a_law : Addr
  d_law : FuncData
  F_law : Fun K "law" "law" (topS 12) a_law d_law
  b_law : Binds K d_law ["script"] []
  g_law : mg "law" = some (.ref a_law)
  n_abs : mg "abs" = none
  n_bool : mg "bool" = none
  n_int : mg "int" = none
  n_isinstance : mg "isinstance" = none
  n_len : mg "len" = none
  n_max : mg "max" = none
  n_min : mg "min" = none
  n_range : mg "range" = none
  n_sum : mg "sum" = none
  n_tuple : mg "tuple" = none
theorem sc_sum_of : FnScope ["map_told", "place"] ["map_told", "place"] (defScope (topS 1)) := ⟨rfl, rfl, rfl, by decide +kernel, rfl, by decide +kernel, by decide +kernel⟩
noncomputable def m_sum_of : FM := entry 2 2 leaveF (sRet (vCall (one sumP) (aCons (vBinD ixD (vVar 0) (vVar 1)) (aNil))))

theorem sc_reach_of : FnScope ["map_told", "place"] ["map_told", "place"] (defScope (topS 2)) := ⟨rfl, rfl, rfl, by decide +kernel, rfl, by decide +kernel, by decide +kernel⟩
noncomputable def m_reach_of : FM := entry 2 2 leaveF (sRet (vCall maxP (aCons (vBinD ixD (vVar 0) (vVar 1)) (aNil))))

theorem sc_middle : FnScope ["map_told", "place"] ["map_told"] (defScope (topS 3)) := ⟨rfl, rfl, rfl, by decide +kernel, rfl, by decide +kernel, by decide +kernel⟩
noncomputable def m_middle_c1 : FE := vTup (aCons (vDef 2 m_sum_of (aCons (vVar 0) (aCons (vVar 1) (aNil)))) (aCons (vVar 1) (aNil)))
noncomputable def m_middle : FM := entry 2 1 leaveF (sRet (vBinD ixD (vCall minP (aCons (vFz (nLc (iRange1 (vCall (one lenP) (aCons (vVar 0) (aNil)))) (gSet 1) (fYes) (m_middle_c1) [1])) (aNil))) (vC (.int 1))))

theorem sc_centre : FnScope ["map_told", "place"] ["map_told"] (defScope (topS 4)) := ⟨rfl, rfl, rfl, by decide +kernel, rfl, by decide +kernel, by decide +kernel⟩
noncomputable def m_centre_c1 : FE := vTup (aCons (vDef 2 m_reach_of (aCons (vVar 0) (aCons (vVar 1) (aNil)))) (aCons (vVar 1) (aNil)))
noncomputable def m_centre : FM := entry 2 1 leaveF (sRet (vBinD ixD (vCall minP (aCons (vFz (nLc (iRange1 (vCall (one lenP) (aCons (vVar 0) (aNil)))) (gSet 1) (fYes) (m_centre_c1) [1])) (aNil))) (vC (.int 1))))

theorem sc_widest_apart : FnScope ["map_told", "place"] ["map_told"] (defScope (topS 5)) := ⟨rfl, rfl, rfl, by decide +kernel, rfl, by decide +kernel, by decide +kernel⟩
noncomputable def m_widest_apart_c1 : FE := vDef 2 m_reach_of (aCons (vVar 0) (aCons (vVar 1) (aNil)))
noncomputable def m_widest_apart : FM := entry 2 1 leaveF (sRet (vCall maxP (aCons (vFz (nLc (iRange1 (vCall (one lenP) (aCons (vVar 0) (aNil)))) (gSet 1) (fYes) (m_widest_apart_c1) [1])) (aNil))))

theorem sc__law_open : FnScope ["script", "cells", "cell"] ["script"] (defScope (topS 7)) := ⟨rfl, rfl, rfl, by decide +kernel, rfl, by decide +kernel, by decide +kernel⟩
noncomputable def m__law_open_c1 : FE := vCall (one absP) (aCons (vCall (one intP1) (aCons (vVar 2) (aNil))) (aNil))
noncomputable def m__law_open : FM := entry 3 1 leaveN (sSeq (sSet 1 (vFz (nLc (iSeq (vSl (vVar 0) (oNone) (oSome (vC (.int 63))))) (gSet 2) (fYes) (m__law_open_c1) [2])))
  (sRet (vOwn (nLst (aCons (vC (.int 0)) (aCons (vC (.int 0)) (aCons (vBin addP (vVar 1) (vFz (nLst (aCons (vC (.int 0)) (aNil))))) (aNil))))))))

theorem sc__law_mixed : FnScope ["cell", "turn", "number"] ["cell", "turn"] (defScope (topS 8)) := ⟨rfl, rfl, rfl, by decide +kernel, rfl, by decide +kernel, by decide +kernel⟩
noncomputable def m__law_mixed : FM := entry 3 2 leaveF (sSeq (sSet 2 (vBin modP (vBin addP (vBin addP (vBin mulP (vBin modP (vVar 0) (vBin subP (vBin powP (vC (.int 2)) (vC (.int 61))) (vC (.int 1)))) (vC (.int 6364136223846793005))) (vBin mulP (vVar 1) (vC (.int 1442695040888963407)))) (vC (.int 97))) (vBin powP (vC (.int 2)) (vC (.int 61)))))
  (sSeq (sSet 2 (vBin modP (vBin mulP (vBin xorP (vVar 2) (vBin shrP (vVar 2) (vC (.int 29)))) (vC (.int 3935559000370003845))) (vBin powP (vC (.int 2)) (vC (.int 61)))))
  (sRet (vBin modP (vBin mulP (vBin xorP (vVar 2) (vBin shrP (vVar 2) (vC (.int 31)))) (vC (.int 2862933555777941757))) (vBin powP (vC (.int 2)) (vC (.int 61)))))))

theorem sc__law_draw : FnScope ["draws", "size", "turn", "left", "cells", "cell"] ["draws", "size"] (defScope (topS 9)) := ⟨rfl, rfl, rfl, by decide +kernel, rfl, by decide +kernel, by decide +kernel⟩
noncomputable def m__law_draw : FM := entry 6 2 leaveF (sSeq (sAsg (vVar 0) (gTupV 3 (gsCons (gSet 2) (gsCons (gSet 3) (gsCons (gSet 4) (gsNil))))))
  (sSeq (sIf (asB (vBin ltP (vVar 3) (vVar 1))) (sSeq (sSet 5 (vBinD ixD (vVar 4) (vBin modP (vVar 2) (vCall (one lenP) (aCons (vVar 4) (aNil))))))
  (sSeq (sSet 3 (vIf (vAnd (asB (vBin ltP (vVar 2) (vCall (one lenP) (aCons (vVar 4) (aNil))))) (asB (vBin geP (vVar 5) (vBin powP (vC (.int 10)) (vC (.int 18)))))) (vVar 5) (vDef 2 m__law_mixed (aCons (vVar 5) (aCons (vVar 2) (aNil))))))
  (sSet 2 (vBin addP (vVar 2) (vC (.int 1)))))) (sNil))
  (sSeq (sPut (vVar 2) (vVar 0) (vC (.int 0)))
  (sSeq (sPut (vBin fdivP (vVar 3) (vVar 1)) (vVar 0) (vC (.int 1)))
  (sRet (vBin modP (vVar 3) (vVar 1)))))))

theorem sc__law_int : FnScope ["value"] ["value"] (defScope (topS 10)) := ⟨rfl, rfl, rfl, by decide +kernel, rfl, by decide +kernel, by decide +kernel⟩
noncomputable def m__law_int : FM := entry 1 1 leaveF (sRet (vAndV (vUn (isiP "int") (vVar 0)) (vNotV (vUn (isiP "bool") (vVar 0)))))

theorem sc__law_map : FnScope ["draws", "most", "many", "kind", "table", "one", "third", "spots", "other", "place"] ["draws", "most"] (defScope (topS 11)) := ⟨rfl, rfl, rfl, by decide +kernel, rfl, by decide +kernel, by decide +kernel⟩
noncomputable def m__law_map_c1 : FE := vTup (aCons (vDef 2 m__law_draw (aCons (vVar 0) (aCons (vC (.int 30)) (aNil)))) (aCons (vBin mulP (vDef 2 m__law_draw (aCons (vVar 0) (aCons (vC (.int 20)) (aNil)))) (vVar 3)) (aNil)))
noncomputable def m__law_map_c2 : FE := vBin addP (vCall (one absP) (aCons (vBin subP (vBinD ixD (vVar 5) (vC (.int 0))) (vBinD ixD (vVar 8) (vC (.int 0)))) (aNil))) (vCall (one absP) (aCons (vBin subP (vBinD ixD (vVar 5) (vC (.int 1))) (vBinD ixD (vVar 8) (vC (.int 1)))) (aNil)))
noncomputable def m__law_map_c3 : FE := vCall (one tupleP) (aCons (vFz (nLc (iSeq (vVar 7)) (gSet 8) (fYes) (m__law_map_c2) [8])) (aNil))
noncomputable def m__law_map_b1 : FS := sSeq (sPut (vBin addP (vC (.int 1)) (vDef 2 m__law_draw (aCons (vVar 0) (aCons (vC (.int 40)) (aNil))))) (vVar 4) (vTup (aCons (vVar 5) (aCons (vVar 8) (aNil)))))
  (sPut (vBinD ixD (vVar 4) (vTup (aCons (vVar 5) (aCons (vVar 8) (aNil))))) (vVar 4) (vTup (aCons (vVar 8) (aCons (vVar 5) (aNil)))))
noncomputable def m__law_map_b2 : FS := sSeq (sFor (iRange1 (vVar 5)) (gSet 8) (m__law_map_b1))
  (sPut (vC (.int 0)) (vVar 4) (vTup (aCons (vVar 5) (aCons (vVar 5) (aNil)))))
noncomputable def m__law_map_b3 : FS := sPut (vCall minP (aCons (vBinD ixD (vVar 4) (vTup (aCons (vVar 5) (aCons (vVar 8) (aNil))))) (aCons (vBin addP (vBinD ixD (vVar 4) (vTup (aCons (vVar 5) (aCons (vVar 6) (aNil))))) (vBinD ixD (vVar 4) (vTup (aCons (vVar 6) (aCons (vVar 8) (aNil)))))) (aNil)))) (vVar 4) (vTup (aCons (vVar 5) (aCons (vVar 8) (aNil))))
noncomputable def m__law_map_b4 : FS := sFor (iRange1 (vVar 2)) (gSet 8) (m__law_map_b3)
noncomputable def m__law_map_b5 : FS := sFor (iRange1 (vVar 2)) (gSet 5) (m__law_map_b4)
noncomputable def m__law_map_c4 : FE := vBinD ixD (vVar 4) (vTup (aCons (vVar 5) (aCons (vVar 8) (aNil))))
noncomputable def m__law_map_c5 : FE := vCall (one tupleP) (aCons (vFz (nLc (iRange1 (vVar 2)) (gSet 8) (fYes) (m__law_map_c4) [8])) (aNil))
noncomputable def m__law_map : FM := entry 10 2 leaveF (sSeq (sSet 2 (vBin addP (vC (.int 1)) (vDef 2 m__law_draw (aCons (vVar 0) (aCons (vVar 1) (aNil))))))
  (sSeq (sSet 3 (vDef 2 m__law_draw (aCons (vVar 0) (aCons (vC (.int 3)) (aNil)))))
  (sSeq (sIf (asB (vBin ltP (vVar 3) (vC (.int 2)))) (sSeq (sSet 7 (vFz (nLc (iRange1 (vVar 2)) (gSet 9) (fYes) (m__law_map_c1) [9])))
  (sRet (vCall (one tupleP) (aCons (vFz (nLc (iSeq (vVar 7)) (gSet 5) (fYes) (m__law_map_c3) [5])) (aNil))))) (sNil))
  (sSeq (sSet 4 (vOwn (nDct true)))
  (sSeq (sFor (iRange1 (vVar 2)) (gSet 5) (m__law_map_b2))
  (sSeq (sFor (iRange1 (vVar 2)) (gSet 6) (m__law_map_b5))
  (sRet (vCall (one tupleP) (aCons (vFz (nLc (iRange1 (vVar 2)) (gSet 5) (fYes) (m__law_map_c5) [5])) (aNil))))))))))

theorem sc_law : FnScope ["script", "draws", "plan", "many", "sums", "reaches", "widest", "one", "whole", "most", "other"] ["script"] (defScope (topS 12)) := ⟨rfl, rfl, rfl, by decide +kernel, rfl, by decide +kernel, by decide +kernel⟩
noncomputable def m_law_b1 : FS := sSeq (sAug 8 addI (vBinD ixD (vBinD ixD (vVar 2) (vVar 7)) (vVar 10)))
  (sSeq (sSet 9 (vCall maxP (aCons (vVar 9) (aCons (vBinD ixD (vBinD ixD (vVar 2) (vVar 7)) (vVar 10)) (aNil)))))
  (sSet 6 (vCall maxP (aCons (vVar 6) (aCons (vBinD ixD (vBinD ixD (vVar 2) (vVar 7)) (vVar 10)) (aNil))))))
noncomputable def m_law_b2 : FS := sSeq (sAsgT (aCons (vC (.int 0)) (aCons (vC (.int 0)) (aNil))) 2 (gsCons (gSet 8) (gsCons (gSet 9) (gsNil))))
  (sSeq (sFor (iRange1 (vVar 3)) (gSet 10) (m_law_b1))
  (sSeq (sExpr (vMth isLstV mAppend (vVar 4) (aCons (vVar 8) (aNil))))
  (sSeq (sExpr (vMth isLstV mAppend (vVar 5) (aCons (vVar 9) (aNil))))
  (sIf (vOr (asB (vBin (eqP true) (vDef 2 m_sum_of (aCons (vVar 2) (aCons (vVar 7) (aNil)))) (vVar 8))) (vOr (asB (vBin (eqP true) (vDef 2 m_reach_of (aCons (vVar 2) (aCons (vVar 7) (aNil)))) (vVar 9))) (tNot (vTru (vDef 1 m__law_int (aCons (vDef 2 m_sum_of (aCons (vVar 2) (aCons (vVar 7) (aNil)))) (aNil))))))) (sRet (vC (.bool false))) (sNil)))))
noncomputable def m_law_c1 : FE := vVar 7
noncomputable def m_law_t1 : FT := asB (vBin gtP (vDef 2 m_reach_of (aCons (vVar 2) (aCons (vVar 7) (aNil)))) (vDef 1 m_widest_apart (aCons (vVar 2) (aNil))))
noncomputable def m_law : FM := entry 11 1 leaveF (sSeq (sSet 1 (vDef 1 m__law_open (aCons (vVar 0) (aNil))))
  (sSeq (sSet 2 (vDef 2 m__law_map (aCons (vVar 1) (aCons (vC (.int 8)) (aNil)))))
  (sSeq (sSet 3 (vCall (one lenP) (aCons (vVar 2) (aNil))))
  (sSeq (sAsgS (aCons (vOwn (nLst (aNil))) (aCons (vOwn (nLst (aNil))) (aCons (vC (.int 0)) (aNil)))) [4, 5, 6])
  (sSeq (sFor (iRange1 (vVar 3)) (gSet 7) (m_law_b2))
  (sSeq (sIf (vOr (asB (vBin (eqP true) (vDef 1 m_middle (aCons (vVar 2) (aNil))) (vMth isLstV mIndex (vVar 4) (aCons (vCall minP (aCons (vVar 4) (aNil))) (aNil))))) (vOr (asB (vBin (eqP true) (vDef 1 m_centre (aCons (vVar 2) (aNil))) (vMth isLstV mIndex (vVar 5) (aCons (vCall minP (aCons (vVar 5) (aNil))) (aNil))))) (asB (vBin (eqP true) (vDef 1 m_widest_apart (aCons (vVar 2) (aNil))) (vVar 6))))) (sRet (vC (.bool false))) (sNil))
  (sRet (vAndV (vBin leP (vVar 6) (vBin mulP (vC (.int 2)) (vDef 2 m_reach_of (aCons (vVar 2) (aCons (vDef 1 m_centre (aCons (vVar 2) (aNil))) (aNil)))))) (vBin (eqP false) (vFz (nLc (iRange1 (vVar 3)) (gSet 7) (m_law_t1) (m_law_c1) [7])) (vFz (nLst (aNil))))))))))))

end K59

namespace K59
open PySem PySem.Spec PyProof.Rows L2 VL
/-- n rows of n numbers -/
def plan (n : Nat) (D : Nat → Nat → Int) : PyData := .tuple ((List.range n).map fun i => .tuple ((List.range n).map fun j => .int (D i j)))
/-- what a map is -/
structure MapOk (n : Nat) (D : Nat → Nat → Int) : Prop where
  one : 0 < n
  most : n ≤ 8
  nn : ∀ i j, i < n → j < n → 0 ≤ D i j
  sym : ∀ i j, i < n → j < n → D i j = D j i
  tri : ∀ i j k, i < n → j < n → k < n → D i j ≤ D i k + D k j
theorem open_eq : m__law_open = dB_open := rfl
theorem draw_eq : m__law_draw = dB_draw := rfl
section
variable {n : Nat} {D : Nat → Nat → Int}
theorem plan_at {i : Nat} (h : i < n) : atI ((List.range n).map fun i => PyData.tuple ((List.range n).map fun j => .int (D i j))) (i : Int) = some (.tuple ((List.range n).map fun j => .int (D i j))) := atI_range _ h
theorem row_at (i : Nat) {j : Nat} (h : j < n) : atI ((List.range n).map fun j => PyData.int (D i j)) (j : Int) = some (.int (D i j)) := atI_range _ h
theorem sum_row (f : Nat → Int) (n : Nat) : sumP (.tuple ((List.range n).map fun j => .int (f j))) = .ok (.int (VL.ps f n)) := by
  have := sumP_tup ((List.range n).map f)
  rw [List.map_map] at this
  exact this
theorem sum_ok {i : Nat} (h : i < n) (st : Store) : m_sum_of [.p (plan n D), .p (.int i)] st = .ok (.p (.int (VL.ps (D i) n)), st) := by
  simp [m_sum_of, plan, plan_at h, sum_row]
theorem reach_ok {i : Nat} (h : i < n) (st : Store) : m_reach_of [.p (plan n D), .p (.int i)] st = .ok (.p (.int (pm (D i 0) (D i) n)), st) := by
  have := (maxP_row (D i) (n := n) (by omega)).1
  simp [m_reach_of, plan, plan_at h, this]
def R (D : Nat → Nat → Int) (n : Nat) (i : Nat) : Int := pm (D i 0) (D i) n
def S (D : Nat → Nat → Int) (n : Nat) (i : Nat) : Int := VL.ps (D i) n
theorem middle_ok (hn : 0 < n) (h8 : n ≤ 8) (st : Store) : m_middle [.p (plan n D)] st = .ok (.p (.int (am (S D n) (n - 1) : Int)), st) := by
  have h62 : In62 (n : Int) := in62 (by omega) (by omega)
  have hl : lcG ⟨(List.range n).map fun (i : Nat) => PyData.int (i : Int), none⟩ (gSet 1) fYes m_middle_c1 [some (.p (plan n D)), none] ((List.range n).map fun (i : Nat) => PyData.int (i : Int)) st =
      .ok ((List.range n).map fun j => .tuple [.int (S D n j), .int (j : Int)], st) :=
    lcG_mapA (fun (i : Nat) => PyData.int (i : Int)) _ fun i hi => ⟨_, rfl, by simp [m_middle_c1, sum_ok (List.mem_range.mp hi), S]⟩
  have hm := minP_pairs (S D n) (n - 1)
  rw [show n - 1 + 1 = n by omega] at hm
  have hn8 : n ≤ 16777216 := by omega
  have hlen : lenP (plan n D) = .ok (.int n) := by simp [plan]
  have a1 : ∀ x y : PyData, atI [x, y] 1 = some y := fun x y => rfl
  simp [m_middle, hlen, h62, hl, hn8, hm, a1]
theorem centre_ok (hn : 0 < n) (h8 : n ≤ 8) (st : Store) : m_centre [.p (plan n D)] st = .ok (.p (.int (am (R D n) (n - 1) : Int)), st) := by
  have h62 : In62 (n : Int) := in62 (by omega) (by omega)
  have hl : lcG ⟨(List.range n).map fun (i : Nat) => PyData.int (i : Int), none⟩ (gSet 1) fYes m_centre_c1 [some (.p (plan n D)), none] ((List.range n).map fun (i : Nat) => PyData.int (i : Int)) st =
      .ok ((List.range n).map fun j => .tuple [.int (R D n j), .int (j : Int)], st) :=
    lcG_mapA (fun (i : Nat) => PyData.int (i : Int)) _ fun i hi => ⟨_, rfl, by simp [m_centre_c1, reach_ok (List.mem_range.mp hi), R]⟩
  have hm := minP_pairs (R D n) (n - 1)
  rw [show n - 1 + 1 = n by omega] at hm
  have hn8 : n ≤ 16777216 := by omega
  have hlen : lenP (plan n D) = .ok (.int n) := by simp [plan]
  have a1 : ∀ x y : PyData, atI [x, y] 1 = some y := fun x y => rfl
  simp [m_centre, hlen, h62, hl, hn8, hm, a1]
theorem widest_ok (hn : 0 < n) (h8 : n ≤ 8) (st : Store) : m_widest_apart [.p (plan n D)] st = .ok (.p (.int (pm (R D n 0) (R D n) n)), st) := by
  have h62 : In62 (n : Int) := in62 (by omega) (by omega)
  have hl : lcG ⟨(List.range n).map fun (i : Nat) => PyData.int (i : Int), none⟩ (gSet 1) fYes m_widest_apart_c1 [some (.p (plan n D)), none] ((List.range n).map fun (i : Nat) => PyData.int (i : Int)) st =
      .ok ((List.range n).map fun j => .int (R D n j), st) :=
    lcG_mapA (fun (i : Nat) => PyData.int (i : Int)) _ fun i hi => ⟨_, rfl, by simp [m_widest_apart_c1, reach_ok (List.mem_range.mp hi), R]⟩
  have hm := (maxP_row (R D n) hn).2
  have hn8 : n ≤ 16777216 := by omega
  have hlen : lenP (plan n D) = .ok (.int n) := by simp [plan]
  simp [m_widest_apart, hlen, h62, hl, hn8, hm]
theorem int_ok (i : Int) (st : Store) : m__law_int [.p (.int i)] st = .ok (.p (.bool true), st) := by
  have h1 : tyLe "int" "int" = true := by decide
  have h2 : tyLe "int" "bool" = false := by decide
  simp [m__law_int, h1, h2]
/-- the inner loop of the law's -/
theorem in_ok (sc : PyData) (st : Store) {i : Nat} (hi : i < n) (h8 : n ≤ 8) (hD : ∀ j, j < n → 0 ≤ D i j) (w0 : Int) (x10 : Option Vd) :
    ∃ x, forG ⟨(List.range n).map fun (j : Nat) => PyData.int (j : Int), none⟩ (gSet 10) m_law_b1 ((List.range n).map fun (j : Nat) => PyData.int (j : Int))
      [some (.p sc), some (.loc 0), some (.p (plan n D)), some (.p (.int n)), some (.loc 1), some (.loc 2), some (.p (.int w0)), some (.p (.int i)), some (.p (.int 0)), some (.p (.int 0)), x10] st =
    .ok (.nx, [some (.p sc), some (.loc 0), some (.p (plan n D)), some (.p (.int n)), some (.loc 1), some (.loc 2), some (.p (.int (pm w0 (D i) n))), some (.p (.int i)), some (.p (.int (VL.ps (D i) n))), some (.p (.int (pm 0 (D i) n))), x], st) := by
  obtain ⟨ρ', st', e, x, e1, e2⟩ := forG_ix (src := (List.range n).map fun (j : Nat) => PyData.int (j : Int)) (gt := gSet 10) (body := m_law_b1) (ds := (List.range n).map fun (j : Nat) => PyData.int (j : Int)) (st := st)
    (ρ := [some (.p sc), some (.loc 0), some (.p (plan n D)), some (.p (.int n)), some (.loc 1), some (.loc 2), some (.p (.int w0)), some (.p (.int i)), some (.p (.int 0)), some (.p (.int 0)), x10])
    (fun j ρ s => ∃ x, ρ = [some (.p sc), some (.loc 0), some (.p (plan n D)), some (.p (.int n)), some (.loc 1), some (.loc 2), some (.p (.int (pm w0 (D i) j))), some (.p (.int i)), some (.p (.int (VL.ps (D i) j))), some (.p (.int (pm 0 (D i) j))), x] ∧ s = st)
    (fun j d ρ s hd hP => by
      obtain ⟨hj, rfl⟩ := range_get hd
      obtain ⟨x, rfl, rfl⟩ := hP
      refine ⟨_, _, _, rfl, .inl ?_, some (.p (.int j)), rfl, rfl⟩
      have h1 := plan_at (n := n) (D := D) hi
      have h2 := row_at (n := n) (D := D) i hj
      simp [m_law_b1, plan, h1, h2])
    ⟨x10, rfl, rfl⟩
  rw [e, e1, e2]
  simp
/-- the law's loop -/
theorem out_ok (sc : PyData) (ob : Ob) (M : MapOk n D) : ∃ x7 x8 x9 x10, forG ⟨(List.range n).map fun (j : Nat) => PyData.int (j : Int), none⟩ (gSet 7) m_law_b2 ((List.range n).map fun (j : Nat) => PyData.int (j : Int))
      [some (.p sc), some (.loc 0), some (.p (plan n D)), some (.p (.int n)), some (.loc 1), some (.loc 2), some (.p (.int 0)), none, none, none, none] [ob, .lst [], .lst []] =
    .ok (.nx, [some (.p sc), some (.loc 0), some (.p (plan n D)), some (.p (.int n)), some (.loc 1), some (.loc 2), some (.p (.int (pm 0 (R D n) n))), x7, x8, x9, x10], [ob, .lst ((List.range n).map fun j => .int (S D n j)), .lst ((List.range n).map fun j => .int (R D n j))]) := by
  obtain ⟨ρ', st', e, x7, x8, x9, x10, e1, e2⟩ := forG_ix (src := (List.range n).map fun (j : Nat) => PyData.int (j : Int)) (gt := gSet 7) (body := m_law_b2) (ds := (List.range n).map fun (j : Nat) => PyData.int (j : Int)) (st := [ob, .lst [], .lst []])
    (ρ := [some (.p sc), some (.loc 0), some (.p (plan n D)), some (.p (.int n)), some (.loc 1), some (.loc 2), some (.p (.int 0)), none, none, none, none])
    (fun i ρ s => ∃ x7 x8 x9 x10, ρ = [some (.p sc), some (.loc 0), some (.p (plan n D)), some (.p (.int n)), some (.loc 1), some (.loc 2), some (.p (.int (pm 0 (R D n) i))), x7, x8, x9, x10] ∧ s = [ob, .lst ((List.range i).map fun j => .int (S D n j)), .lst ((List.range i).map fun j => .int (R D n j))])
    (fun i d ρ s hd hP => by
      obtain ⟨hi, rfl⟩ := range_get hd
      obtain ⟨x7, x8, x9, x10, rfl, rfl⟩ := hP
      have hn8 := M.most
      have h62 : In62 (n : Int) := in62 (by omega) (by omega)
      obtain ⟨x, hin⟩ := in_ok sc [ob, .lst ((List.range i).map fun j => .int (S D n j)), .lst ((List.range i).map fun j => .int (R D n j))] hi M.most (fun j hj => M.nn i j hi hj) (pm 0 (R D n) i) x10
      have hl : i ≤ 16777216 := by omega
      have hl2 : i < 16777216 := by omega
      have hr : pm 0 (D i) n = R D n i := pm_start (by omega) fun j hj => M.nn i j hi hj
      have hw : pm (pm 0 (R D n) i) (D i) n = max (pm 0 (R D n) i) (R D n i) := by
        rw [pm_row n pm_ge0 (b := 0), hr]
      refine ⟨_, _, _, rfl, .inl ?_, some (.p (.int i)), some (.p (.int (S D n i))), some (.p (.int (R D n i))), x, rfl, rfl⟩
      rw [hr, hw] at hin
      have hs : VL.ps (D i) n = S D n i := rfl
      have hR : pm (D i 0) (D i) n = R D n i := rfl
      rw [hs] at hin
      have s1 := sum_ok (n := n) (D := D) hi
      have s2 := reach_ok (n := n) (D := D) hi
      rw [hs] at s1
      rw [hR] at s2
      simp [m_law_b2, h62, hin, isLstV, peek, mAppend, hl2, s1, s2, int_ok, List.range_succ])
    ⟨none, none, none, none, rfl, rfl⟩
  rw [e, e1, e2]
  simp
end
/-! ### the map that is drawn -/
theorem draw1 {ob : Ob} (hd : DrB ob) (r : List Ob) {size : Int} (h0 : 0 < size) (h1 : size < 2 ^ 60) : ∃ v ob', m__law_draw [.loc 0, .p (.int size)] (ob :: r) = .ok (.p (.int v), ob' :: r) ∧ DrB ob' ∧ 0 ≤ v ∧ v < size := by
  obtain ⟨v, ob', e, a, b, c⟩ := drawB_ok (st := ob :: r) (k := 0) (size := size) rfl hd h0 h1
  exact ⟨v, ob', by rw [draw_eq, e]; rfl, a, b, c⟩
theorem list_fn {α : Type} [Inhabited α] (c : α → PyData) {l : List PyData} (h : ∀ v ∈ l, ∃ a, v = c a) : ∃ f : Nat → α, l = (List.range l.length).map fun i => c (f i) := by
  induction l with
  | nil => exact ⟨fun _ => default, rfl⟩
  | cons d r ih =>
    obtain ⟨f, hf⟩ := ih fun v hv => h v (List.mem_cons_of_mem _ hv)
    obtain ⟨a, rfl⟩ := h d List.mem_cons_self
    refine ⟨fun i => match i with | 0 => a | i + 1 => f i, ?_⟩
    rw [List.length_cons, List.range_succ_eq_map, List.map_cons, List.map_map]
    congr 1
theorem street {n : Nat} (h0 : 0 < n) (h8 : n ≤ 8) (f g : Nat → Int) : MapOk n (fun i j => ((f i - f j).natAbs : Int) + ((g i - g j).natAbs : Int)) :=
  ⟨h0, h8, fun i j _ _ => by show (0 : Int) ≤ ((f i - f j).natAbs : Int) + _; omega, fun i j _ _ => by show ((f i - f j).natAbs : Int) + ((g i - g j).natAbs : Int) = _; omega, fun i j k _ _ _ => by
    show ((f i - f j).natAbs : Int) + ((g i - g j).natAbs : Int) ≤ ((f i - f k).natAbs : Int) + ((g i - g k).natAbs : Int) + (((f k - f j).natAbs : Int) + ((g k - g j).natAbs : Int)); omega⟩
def ky (a b : Nat) : PyData := .tuple [.int (a : Int), .int (b : Int)]
theorem ky_inj {a b c d : Nat} : ky a b = ky c d ↔ a = c ∧ b = d := by
  unfold ky
  constructor
  · intro h
    injection h with h
    injection h with h1 h2
    injection h2 with h2 _
    injection h1 with h1
    injection h2 with h2
    omega
  · rintro ⟨rfl, rfl⟩; rfl
theorem get_put (ds : List (PyData × PyData)) (a b c d : Nat) (v : PyData) : getP (putP ds (ky a b) v) (ky c d) = if a = c ∧ b = d then some v else getP ds (ky c d) := by
  rw [getP_put]
  by_cases h : a = c ∧ b = d
  · rw [if_pos h, if_pos (ky_inj.mpr h)]
  · rw [if_neg h, if_neg fun z => h (ky_inj.mp z)]
/-- numbers between places, none to oneself -/
structure Dst (D : Nat → Nat → Int) : Prop where
  nn : ∀ i j, 0 ≤ D i j
  sym : ∀ i j, D i j = D j i
  dia : ∀ i, D i i = 0
def At (ds : List (PyData × PyData)) (D : Nat → Nat → Int) (P : Nat → Nat → Prop) : Prop := ∀ a b, P a b → getP ds (ky a b) = some (.int (D a b))
theorem put_tab (ob : Ob) (ds : List (PyData × PyData)) (a b : Nat) (v : PyData) (h : ds.length < 1000000) : putS [ob, .dct true ds] (.loc 1) (.tuple [.int (a : Int), .int (b : Int)]) v = .ok [ob, .dct true (putP ds (ky a b) v)] := by
  rw [putS_dct (st := [ob, .dct true ds]) (k := 1) (t := true) (ds := ds) rfl rfl (Nat.lt_trans h (by decide))]; rfl
theorem get_tab (ob : Ob) (ds : List (PyData × PyData)) (a b : Nat) {v : PyData} (h : getP ds (ky a b) = some v) : ixD [ob, .dct true ds] (.loc 1) (.p (.tuple [.int (a : Int), .int (b : Int)])) = .ok v := by
  rw [ixD_dct (st := [ob, .dct true ds]) (k := 1) (t := true) (ds := ds) rfl rfl]
  show optR (getP ds (ky a b)) = _
  rw [h]; rfl
section
variable (most kind : PyData) (n : Nat)
/-- the inner filling -/
theorem fill1 (x3 x6 x7 x8 x9 : Option Vd) {i : Nat} (ob : Ob) (ds : List (PyData × PyData)) (D : Nat → Nat → Int) (hd : DrB ob) (hD : Dst D) (hA : At ds D fun a b => a < i ∧ b < i) (hl : ds.length ≤ 1000 * i) (hi : i < 8) :
    ∃ x ob' ds' D', forG ⟨(List.range i).map fun (j : Nat) => PyData.int (j : Int), none⟩ (gSet 8) m__law_map_b1 ((List.range i).map fun (j : Nat) => PyData.int (j : Int))
      [some (.loc 0), some (.p most), some (.p (.int n)), x3, some (.loc 1), some (.p (.int i)), x6, x7, x8, x9] [ob, .dct true ds] =
    .ok (.nx, [some (.loc 0), some (.p most), some (.p (.int n)), x3, some (.loc 1), some (.p (.int i)), x6, x7, x, x9], [ob', .dct true ds']) ∧ DrB ob' ∧ Dst D' ∧ (At ds' D' fun a b => a < i + 1 ∧ b < i + 1 ∧ ¬ (a = i ∧ b = i)) ∧ ds'.length ≤ 1000 * i + 2 * i := by
  obtain ⟨ρ', st', e, x, ob', ds', D', e1, e2, h1, h2, h3, h4⟩ := forG_ix (src := (List.range i).map fun (j : Nat) => PyData.int (j : Int)) (gt := gSet 8) (body := m__law_map_b1) (ds := (List.range i).map fun (j : Nat) => PyData.int (j : Int)) (st := [ob, .dct true ds])
    (ρ := [some (.loc 0), some (.p most), some (.p (.int n)), x3, some (.loc 1), some (.p (.int i)), x6, x7, x8, x9])
    (fun j ρ s => ∃ x ob' ds' D', ρ = [some (.loc 0), some (.p most), some (.p (.int n)), x3, some (.loc 1), some (.p (.int i)), x6, x7, x, x9] ∧ s = [ob', .dct true ds'] ∧ DrB ob' ∧ Dst D' ∧ (At ds' D' fun a b => (a < i ∧ b < i) ∨ (a = i ∧ b < j) ∨ (a < j ∧ b = i)) ∧ ds'.length ≤ 1000 * i + 2 * j)
    (fun j d ρ s hd hP => by
      obtain ⟨hj, rfl⟩ := range_get hd
      obtain ⟨x, ob', ds', D', rfl, rfl, q1, q2, q3, q4⟩ := hP
      obtain ⟨v, ob2, ev, r1, r2, r3⟩ := draw1 q1 [.dct true ds'] (size := 40) (by decide) (by decide)
      have g1 : getP (putP ds' (ky i j) (.int (1 + v))) (ky i j) = some (.int (1 + v)) := by rw [get_put, if_pos ⟨rfl, rfl⟩]
      have hl1 : ds'.length < 1000000 := by omega
      have hl2 : (putP ds' (ky i j) (.int (1 + v))).length < 1000000 := Nat.lt_of_le_of_lt putP_len (by omega)
      have hl3 : (putP (putP ds' (ky i j) (.int (1 + v))) (ky j i) (.int (1 + v))).length ≤ 1000 * i + 2 * (j + 1) := Nat.le_trans putP_len (Nat.le_trans (Nat.add_le_add_right putP_len 1) (by omega))
      refine ⟨_, _, _, rfl, .inl ?_, some (.p (.int j)), ob2, putP (putP ds' (ky i j) (.int (1 + v))) (ky j i) (.int (1 + v)), fun a b => if (a = i ∧ b = j) ∨ (a = j ∧ b = i) then 1 + v else D' a b, rfl, rfl, r1, ⟨fun a b => ?_, fun a b => ?_, fun a => ?_⟩, fun a b hab => ?_, hl3⟩
      · have p1 := put_tab ob2 ds' i j (.int (1 + v)) hl1
        have p2 := get_tab ob2 _ i j g1
        have p3 := put_tab ob2 _ j i (.int (1 + v)) hl2
        simp [m__law_map_b1, ev, p1, p2, p3]
      · have := q2.nn a b
        show 0 ≤ (if (a = i ∧ b = j) ∨ (a = j ∧ b = i) then 1 + v else D' a b)
        split <;> omega
      · have := q2.sym a b
        show (if (a = i ∧ b = j) ∨ (a = j ∧ b = i) then 1 + v else D' a b) = (if (b = i ∧ a = j) ∨ (b = j ∧ a = i) then 1 + v else D' b a)
        by_cases c : (a = i ∧ b = j) ∨ (a = j ∧ b = i)
        · rw [if_pos c, if_pos (by omega)]
        · rw [if_neg c, if_neg (by omega)]; exact this
      · show (if (a = i ∧ a = j) ∨ (a = j ∧ a = i) then 1 + v else D' a a) = 0
        rw [if_neg (by omega)]; exact q2.dia a
      · have hab : (a < i ∧ b < i) ∨ (a = i ∧ b < j + 1) ∨ (a < j + 1 ∧ b = i) := hab
        show getP _ (ky a b) = some (.int (if (a = i ∧ b = j) ∨ (a = j ∧ b = i) then 1 + v else D' a b))
        rw [get_put, get_put]
        by_cases c1 : j = a ∧ i = b
        · rw [if_pos c1, if_pos (by omega)]
        · rw [if_neg c1]
          by_cases c2 : i = a ∧ j = b
          · rw [if_pos c2, if_pos (by omega)]
          · rw [if_neg c2, if_neg (by omega)]
            exact q3 a b (by omega))
    ⟨x8, ob, ds, D, rfl, rfl, hd, hD, fun a b hab => hA a b (by omega), by omega⟩
  refine ⟨x, ob', ds', D', by rw [e, e1, e2], h1, h2, fun a b hab => h3 a b (by simp only [List.length_map, List.length_range]; omega), by simpa using h4⟩
/-- the filling -/
theorem fill2 (hn8 : n ≤ 8) (ob : Ob) (hd : DrB ob) (x3 : Option Vd) :
    ∃ x5 x8 ob' ds' D', forG ⟨(List.range n).map fun (j : Nat) => PyData.int (j : Int), none⟩ (gSet 5) m__law_map_b2 ((List.range n).map fun (j : Nat) => PyData.int (j : Int))
      [some (.loc 0), some (.p most), some (.p (.int n)), x3, some (.loc 1), none, none, none, none, none] [ob, .dct true []] =
    .ok (.nx, [some (.loc 0), some (.p most), some (.p (.int n)), x3, some (.loc 1), x5, none, none, x8, none], [ob', .dct true ds']) ∧ DrB ob' ∧ Dst D' ∧ (At ds' D' fun a b => a < n ∧ b < n) ∧ ds'.length ≤ 1000 * n := by
  obtain ⟨ρ', st', e, x5, x8, ob', ds', D', e1, e2, h1, h2, h3, h4⟩ := forG_ix (src := (List.range n).map fun (j : Nat) => PyData.int (j : Int)) (gt := gSet 5) (body := m__law_map_b2) (ds := (List.range n).map fun (j : Nat) => PyData.int (j : Int)) (st := [ob, .dct true []])
    (ρ := [some (.loc 0), some (.p most), some (.p (.int n)), x3, some (.loc 1), none, none, none, none, none])
    (fun i ρ s => ∃ x5 x8 ob' ds' D', ρ = [some (.loc 0), some (.p most), some (.p (.int n)), x3, some (.loc 1), x5, none, none, x8, none] ∧ s = [ob', .dct true ds'] ∧ DrB ob' ∧ Dst D' ∧ (At ds' D' fun a b => a < i ∧ b < i) ∧ ds'.length ≤ 1000 * i)
    (fun i d ρ s hd hP => by
      obtain ⟨hi, rfl⟩ := range_get hd
      obtain ⟨x5, x8, ob', ds', D', rfl, rfl, q1, q2, q3, q4⟩ := hP
      obtain ⟨x, ob2, ds2, D2, e, r1, r2, r3, r4⟩ := fill1 most n x3 none none x8 none (i := i) ob' ds' D' q1 q2 q3 q4 (by omega)
      have h62 : In62 (i : Int) := in62 (by omega) (by omega)
      refine ⟨_, _, _, rfl, .inl ?_, some (.p (.int i)), x, ob2, putP ds2 (ky i i) (.int 0), D2, rfl, rfl, r1, r2, fun a b hab => ?_, Nat.le_trans putP_len (by omega)⟩
      · have p1 := put_tab ob2 ds2 i i (.int 0) (by omega)
        simp [m__law_map_b2, h62, e, p1]
      · rw [get_put]
        by_cases c : i = a ∧ i = b
        · rw [if_pos c, ← c.1, ← c.2, r2.dia]
        · rw [if_neg c]; exact r3 a b (by omega))
    ⟨none, none, ob, [], fun _ _ => 0, rfl, rfl, hd, ⟨fun _ _ => Int.le_refl _, fun _ _ => rfl, fun _ => rfl⟩, fun a b hab => by omega, by simp⟩
  refine ⟨x5, x8, ob', ds', D', by rw [e, e1, e2], h1, h2, fun a b hab => h3 a b (by simpa using hab), by simpa using h4⟩
/-- one step of a phase -/
def ph (D : Nat → Nat → Int) (t a b : Nat) : Int := min (D a b) (D a t + D t b)
theorem ph_l {D : Nat → Nat → Int} (h : Dst D) (t b : Nat) : ph D t t b = D t b := by
  have := h.dia t
  unfold ph; omega
theorem ph_r {D : Nat → Nat → Int} (h : Dst D) (t a : Nat) : ph D t a t = D a t := by
  have := h.dia t
  unfold ph; omega
theorem ph_dst {D : Nat → Nat → Int} (h : Dst D) (t : Nat) : Dst (ph D t) := ⟨fun i j => by
  have := h.nn i j; have := h.nn i t; have := h.nn t j
  unfold ph; omega, fun i j => by
  have := h.sym i j; have := h.sym i t; have := h.sym t j
  unfold ph; omega, fun i => by
  have := h.dia i; have := h.nn i t; have := h.nn t i
  unfold ph; omega⟩
theorem ph_tri {D : Nat → Nat → Int} (h : Dst D) {t n : Nat} (ht : t < n) (H : ∀ a b k, a < n → b < n → k < t → D a b ≤ D a k + D k b) : ∀ a b k, a < n → b < n → k < t + 1 → ph D t a b ≤ ph D t a k + ph D t k b := by
  intro a b k ha hb hk
  rcases Nat.lt_succ_iff_lt_or_eq.mp hk with hk | hk
  · have h1 := H a b k ha hb hk
    have h2 := H a t k ha ht hk
    have h3 := H t b k ht hb hk
    have h4 := h.nn t k
    have h5 := h.nn k t
    unfold ph; omega
  · subst hk
    rw [ph_l h, ph_r h]; unfold ph; omega
/-- a row of a phase -/
theorem row_ok (x3 : Option Vd) (x8 : Option Vd) {t i : Nat} (hn8 : n ≤ 8) (ht : t < n) (hi : i < n) (ob : Ob) (ds : List (PyData × PyData)) (D : Nat → Nat → Int) (hD : Dst D) (hl : ds.length ≤ 100000 + 1000 * t + 10 * i)
    (hA : ∀ a b, a < n → b < n → getP ds (ky a b) = some (.int (if a < i then ph D t a b else D a b))) :
    ∃ x ds', forG ⟨(List.range n).map fun (j : Nat) => PyData.int (j : Int), none⟩ (gSet 8) m__law_map_b3 ((List.range n).map fun (j : Nat) => PyData.int (j : Int))
      [some (.loc 0), some (.p most), some (.p (.int n)), x3, some (.loc 1), some (.p (.int i)), some (.p (.int t)), none, x8, none] [ob, .dct true ds] =
    .ok (.nx, [some (.loc 0), some (.p most), some (.p (.int n)), x3, some (.loc 1), some (.p (.int i)), some (.p (.int t)), none, x, none], [ob, .dct true ds']) ∧ (∀ a b, a < n → b < n → getP ds' (ky a b) = some (.int (if a < i + 1 then ph D t a b else D a b))) ∧ ds'.length ≤ 100000 + 1000 * t + 10 * (i + 1) := by
  obtain ⟨ρ', st', e, x, ds', e1, e2, h3, h4⟩ := forG_ix (src := (List.range n).map fun (j : Nat) => PyData.int (j : Int)) (gt := gSet 8) (body := m__law_map_b3) (ds := (List.range n).map fun (j : Nat) => PyData.int (j : Int)) (st := [ob, .dct true ds])
    (ρ := [some (.loc 0), some (.p most), some (.p (.int n)), x3, some (.loc 1), some (.p (.int i)), some (.p (.int t)), none, x8, none])
    (fun j ρ s => ∃ x ds', ρ = [some (.loc 0), some (.p most), some (.p (.int n)), x3, some (.loc 1), some (.p (.int i)), some (.p (.int t)), none, x, none] ∧ s = [ob, .dct true ds'] ∧
      (∀ a b, a < n → b < n → getP ds' (ky a b) = some (.int (if a < i ∨ (a = i ∧ b < j) then ph D t a b else D a b))) ∧ ds'.length ≤ 100000 + 1000 * t + 10 * i + j)
    (fun j d ρ s hd hP => by
      obtain ⟨hj, rfl⟩ := range_get hd
      obtain ⟨x, ds', rfl, rfl, q3, q4⟩ := hP
      have g1 : getP ds' (ky i j) = some (.int (D i j)) := by rw [q3 i j hi hj, if_neg (by omega)]
      have g2 : getP ds' (ky i t) = some (.int (D i t)) := by
        rw [q3 i t hi ht]
        split
        · rw [ph_r hD]
        · rfl
      have g3 : getP ds' (ky t j) = some (.int (D t j)) := by
        rw [q3 t j ht hj]
        split
        · rw [ph_l hD]
        · rfl
      refine ⟨_, _, _, rfl, .inl ?_, some (.p (.int j)), putP ds' (ky i j) (.int (ph D t i j)), rfl, rfl, fun a b ha hb => ?_, Nat.le_trans putP_len (by omega)⟩
      · have p1 := put_tab ob ds' i j (.int (ph D t i j)) (by omega)
        have r1 := get_tab ob _ i j g1
        have r2 := get_tab ob _ i t g2
        have r3 := get_tab ob _ t j g3
        simp [m__law_map_b3, r1, r2, r3]
        show (putS [ob, .dct true ds'] (.loc 1) (.tuple [.int (i : Int), .int (j : Int)]) (.int (ph D t i j)) >>= _) = _
        rw [p1]; rfl
      · rw [get_put]
        by_cases c : i = a ∧ j = b
        · rw [if_pos c, if_pos (by omega), c.1, c.2]
        · rw [if_neg c, q3 a b ha hb]
          by_cases c2 : a < i ∨ (a = i ∧ b < j)
          · rw [if_pos c2, if_pos (by omega)]
          · rw [if_neg c2, if_neg (by omega)])
    ⟨x8, ds, rfl, rfl, fun a b ha hb => by
      rw [hA a b ha hb]
      by_cases c : a < i
      · rw [if_pos c, if_pos (.inl c)]
      · rw [if_neg c, if_neg (by omega)], by omega⟩
  refine ⟨x, ds', by rw [e, e1, e2], fun a b ha hb => ?_, by simp only [List.length_map, List.length_range] at h4; omega⟩
  have h3 := h3 a b ha hb
  simp only [List.length_map, List.length_range] at h3
  rw [h3]
  by_cases c : a < i + 1
  · rw [if_pos c, if_pos (by omega)]
  · rw [if_neg c, if_neg (by omega)]
/-- a phase -/
theorem phase_ok (x3 : Option Vd) (x5 x8 : Option Vd) {t : Nat} (hn8 : n ≤ 8) (ht : t < n) (ob : Ob) (ds : List (PyData × PyData)) (D : Nat → Nat → Int) (hD : Dst D) (hl : ds.length ≤ 100000 + 1000 * t)
    (hA : At ds D fun a b => a < n ∧ b < n) :
    ∃ y5 y8 ds', forG ⟨(List.range n).map fun (j : Nat) => PyData.int (j : Int), none⟩ (gSet 5) m__law_map_b4 ((List.range n).map fun (j : Nat) => PyData.int (j : Int))
      [some (.loc 0), some (.p most), some (.p (.int n)), x3, some (.loc 1), x5, some (.p (.int t)), none, x8, none] [ob, .dct true ds] =
    .ok (.nx, [some (.loc 0), some (.p most), some (.p (.int n)), x3, some (.loc 1), y5, some (.p (.int t)), none, y8, none], [ob, .dct true ds']) ∧ (At ds' (ph D t) fun a b => a < n ∧ b < n) ∧ ds'.length ≤ 100000 + 1000 * (t + 1) := by
  have h62 : In62 (n : Int) := in62 (by omega) (by omega)
  obtain ⟨ρ', st', e, x5, x8, ds', e1, e2, h3, h4⟩ := forG_ix (src := (List.range n).map fun (j : Nat) => PyData.int (j : Int)) (gt := gSet 5) (body := m__law_map_b4) (ds := (List.range n).map fun (j : Nat) => PyData.int (j : Int)) (st := [ob, .dct true ds])
    (ρ := [some (.loc 0), some (.p most), some (.p (.int n)), x3, some (.loc 1), x5, some (.p (.int t)), none, x8, none])
    (fun i ρ s => ∃ x5 x8 ds', ρ = [some (.loc 0), some (.p most), some (.p (.int n)), x3, some (.loc 1), x5, some (.p (.int t)), none, x8, none] ∧ s = [ob, .dct true ds'] ∧
      (∀ a b, a < n → b < n → getP ds' (ky a b) = some (.int (if a < i then ph D t a b else D a b))) ∧ ds'.length ≤ 100000 + 1000 * t + 10 * i)
    (fun i d ρ s hd hP => by
      obtain ⟨hi, rfl⟩ := range_get hd
      obtain ⟨x5, x8, ds', rfl, rfl, q3, q4⟩ := hP
      obtain ⟨x, ds2, e, r1, r2⟩ := row_ok most n x3 x8 hn8 ht hi ob ds' D hD q4 q3
      exact ⟨_, _, _, rfl, .inl (by simp [m__law_map_b4, h62, e]), some (.p (.int i)), x, ds2, rfl, rfl, r1, r2⟩)
    ⟨x5, x8, ds, rfl, rfl, fun a b ha hb => by rw [hA a b ⟨ha, hb⟩, if_neg (by omega)], by omega⟩
  refine ⟨x5, x8, ds', by rw [e, e1, e2], fun a b hab => ?_, by simp only [List.length_map, List.length_range] at h4; omega⟩
  have h3 := h3 a b hab.1 hab.2
  simp only [List.length_map, List.length_range] at h3
  rw [h3, if_pos hab.1]
/-- all phases -/
theorem phases_ok (x3 : Option Vd) (x5 x8 : Option Vd) (hn8 : n ≤ 8) (ob : Ob) (ds : List (PyData × PyData)) (D : Nat → Nat → Int) (hD : Dst D) (hl : ds.length ≤ 100000) (hA : At ds D fun a b => a < n ∧ b < n) :
    ∃ y5 y6 y8 ds' D', forG ⟨(List.range n).map fun (j : Nat) => PyData.int (j : Int), none⟩ (gSet 6) m__law_map_b5 ((List.range n).map fun (j : Nat) => PyData.int (j : Int))
      [some (.loc 0), some (.p most), some (.p (.int n)), x3, some (.loc 1), x5, none, none, x8, none] [ob, .dct true ds] =
    .ok (.nx, [some (.loc 0), some (.p most), some (.p (.int n)), x3, some (.loc 1), y5, y6, none, y8, none], [ob, .dct true ds']) ∧ (At ds' D' fun a b => a < n ∧ b < n) ∧ Dst D' ∧ (∀ a b k, a < n → b < n → k < n → D' a b ≤ D' a k + D' k b) := by
  have h62 : In62 (n : Int) := in62 (by omega) (by omega)
  obtain ⟨ρ', st', e, x5, x6, x8, ds', D', e1, e2, h1, h2, h3, h4⟩ := forG_ix (src := (List.range n).map fun (j : Nat) => PyData.int (j : Int)) (gt := gSet 6) (body := m__law_map_b5) (ds := (List.range n).map fun (j : Nat) => PyData.int (j : Int)) (st := [ob, .dct true ds])
    (ρ := [some (.loc 0), some (.p most), some (.p (.int n)), x3, some (.loc 1), x5, none, none, x8, none])
    (fun t ρ s => ∃ x5 x6 x8 ds' D', ρ = [some (.loc 0), some (.p most), some (.p (.int n)), x3, some (.loc 1), x5, x6, none, x8, none] ∧ s = [ob, .dct true ds'] ∧ (At ds' D' fun a b => a < n ∧ b < n) ∧ Dst D' ∧
      (∀ a b k, a < n → b < n → k < t → D' a b ≤ D' a k + D' k b) ∧ ds'.length ≤ 100000 + 1000 * t)
    (fun t d ρ s hd hP => by
      obtain ⟨ht, rfl⟩ := range_get hd
      obtain ⟨x5, x6, x8, ds', D', rfl, rfl, q1, q2, q3, q4⟩ := hP
      obtain ⟨y5, y8, ds2, e, r1, r2⟩ := phase_ok most n x3 x5 x8 hn8 ht ob ds' D' q2 q4 q1
      exact ⟨_, _, _, rfl, .inl (by simp [m__law_map_b5, h62, e]), y5, some (.p (.int t)), y8, ds2, ph D' t, rfl, rfl, r1, ph_dst q2 t, ph_tri q2 ht q3, r2⟩)
    ⟨x5, none, x8, ds, D, rfl, rfl, hA, hD, fun a b k ha hb hk => by omega, by omega⟩
  refine ⟨x5, x6, x8, ds', D', by rw [e, e1, e2], h1, h2, fun a b k ha hb hk => h3 a b k ha hb (by simpa using hk)⟩
end
theorem map_ok (ob : Ob) (hd : DrB ob) : ∃ n D ob', m__law_map [.loc 0, .p (.int 8)] [ob] = .ok (.p (plan n D), [ob']) ∧ MapOk n D := by
  obtain ⟨v, ob1, e1, d1, v0, v8⟩ := draw1 hd [] (size := 8) (by decide) (by decide)
  obtain ⟨kd, ob2, e2, d2, k0, k3⟩ := draw1 d1 [] (size := 3) (by decide) (by decide)
  obtain ⟨n, hn⟩ : ∃ n : Nat, 1 + v = (n : Int) := ⟨(1 + v).toNat, by omega⟩
  have hn0 : 0 < n := by omega
  have hn8 : n ≤ 8 := by omega
  have h62 : In62 (n : Int) := in62 (by omega) (by omega)
  have hnl : n ≤ 16777216 := by omega
  by_cases hk : kd < 2
  · -- by streets
    obtain ⟨l, st', el, hl, hv, ob3, rfl, d3⟩ := lcG_inv (src := (List.range n).map fun (j : Nat) => PyData.int (j : Int)) (gt := gSet 9) (fe := m__law_map_c1) (ρ := [some (.loc 0), some (.p (.int 8)), some (.p (.int n)), some (.p (.int kd)), none, none, none, none, none, none])
      (fun st => ∃ ob, st = [ob] ∧ DrB ob) (fun d => ∃ a : Int × Int, d = .tuple [.int a.1, .int a.2]) (ds := (List.range n).map fun (j : Nat) => PyData.int (j : Int)) (st := [ob2]) (fun d hd st hP => by
        obtain ⟨i, hi, rfl⟩ := mem_range hd
        obtain ⟨ob, rfl, hd⟩ := hP
        obtain ⟨x, oba, ea, da, _, _⟩ := draw1 hd [] (size := 30) (by decide) (by decide)
        obtain ⟨y, obb, eb, db, y0, y1⟩ := draw1 da [] (size := 20) (by decide) (by decide)
        have hm : PySem.IntMulOk y kd := mul_okL (by omega)
        exact ⟨_, _, _, rfl, by simp [m__law_map_c1, ea, eb, hm], ⟨(x, y * kd), rfl⟩, obb, rfl, db⟩) ⟨ob2, rfl, d2⟩
    have hl : l.length = n := by simpa using hl
    obtain ⟨f, hf⟩ := list_fn (fun a : Int × Int => PyData.tuple [.int a.1, .int a.2]) hv
    rw [hl] at hf
    refine ⟨n, _, ob3, ?_, street hn0 hn8 (fun i => (f i).1) (fun i => (f i).2)⟩
    have a0 : ∀ x y : PyData, atI [x, y] 0 = some x := fun x y => rfl
    have a1 : ∀ x y : PyData, atI [x, y] 1 = some y := fun x y => rfl
    have inner : ∀ (i : Nat) (ρ8 : Option Vd), lcG ⟨l, none⟩ (gSet 8) fYes m__law_map_c2 [some (.loc 0), some (.p (.int 8)), some (.p (.int n)), some (.p (.int kd)), none, some (.p (.tuple [.int (f i).1, .int (f i).2])), none, some (.p (.list l)), none, none] l [ob3] =
        .ok ((List.range n).map fun j => .int ((((f i).1 - (f j).1).natAbs : Int) + (((f i).2 - (f j).2).natAbs : Int)), [ob3]) := fun i ρ8 => by
      conv => lhs; arg 6; rw [hf]
      exact lcG_mapA (fun j => PyData.tuple [.int (f j).1, .int (f j).2]) _ fun j hj => ⟨_, rfl, by simp [m__law_map_c2, a0, a1]⟩
    have outer : lcG ⟨l, none⟩ (gSet 5) fYes m__law_map_c3 [some (.loc 0), some (.p (.int 8)), some (.p (.int n)), some (.p (.int kd)), none, none, none, some (.p (.list l)), none, none] l [ob3] =
        .ok ((List.range n).map fun i => .tuple ((List.range n).map fun j => .int ((((f i).1 - (f j).1).natAbs : Int) + (((f i).2 - (f j).2).natAbs : Int))), [ob3]) := by
      conv => lhs; arg 6; rw [hf]
      exact lcG_mapA (fun j => PyData.tuple [.int (f j).1, .int (f j).2]) _ fun i hi => ⟨_, rfl, by simp [m__law_map_c3, inner i none, hnl]⟩
    simp [m__law_map, e1, e2, hn, hk, h62, el, hl, hnl, outer, plan]
  · obtain ⟨x5, x8, ob3, ds, D, ef, d3, hD, hA, hl⟩ := fill2 (.int 8) n hn8 ob2 d2 (some (.p (.int kd)))
    obtain ⟨y5, y6, y8, ds', D', ep, hA', hD', hT⟩ := phases_ok (.int 8) n (some (.p (.int kd))) x5 x8 hn8 ob3 ds D hD (by omega) hA
    refine ⟨n, D', ob3, ?_, hn0, hn8, fun i j _ _ => hD'.nn i j, fun i j _ _ => hD'.sym i j, hT⟩
    have inner : ∀ (i : Nat), i < n → lcG ⟨(List.range n).map fun (j : Nat) => PyData.int (j : Int), none⟩ (gSet 8) fYes m__law_map_c4 [some (.loc 0), some (.p (.int 8)), some (.p (.int n)), some (.p (.int kd)), some (.loc 1), some (.p (.int i)), y6, none, none, none] ((List.range n).map fun (j : Nat) => PyData.int (j : Int)) [ob3, .dct true ds'] =
        .ok ((List.range n).map fun j => .int (D' i j), [ob3, .dct true ds']) := fun i hi => by
      refine lcG_mapA (fun (j : Nat) => PyData.int (j : Int)) _ fun j hj => ⟨_, rfl, ?_⟩
      have := get_tab ob3 ds' i j (hA' i j ⟨hi, List.mem_range.mp hj⟩)
      simp [m__law_map_c4, this]
    have outer : lcG ⟨(List.range n).map fun (j : Nat) => PyData.int (j : Int), none⟩ (gSet 5) fYes m__law_map_c5 [some (.loc 0), some (.p (.int 8)), some (.p (.int n)), some (.p (.int kd)), some (.loc 1), none, y6, none, y8, none] ((List.range n).map fun (j : Nat) => PyData.int (j : Int)) [ob3, .dct true ds'] =
        .ok ((List.range n).map fun i => .tuple ((List.range n).map fun j => .int (D' i j)), [ob3, .dct true ds']) :=
      lcG_mapA (fun (j : Nat) => PyData.int (j : Int)) _ fun i hi => ⟨_, rfl, by simp [m__law_map_c5, h62, inner i (List.mem_range.mp hi), hnl]⟩
    simp [m__law_map, e1, e2, hn, hk, h62, ef, ep, outer, hnl, plan]
theorem law_math : ∀ ns : List Int, ns.length ≤ 63 → ∃ st', m_law [.p (.list (ns.map .int))] [] = .ok (.p (.bool true), st') := by
  intro ns _
  obtain ⟨ob, eo, hd⟩ := openB_ok ns []
  obtain ⟨n, D, ob', em, M⟩ := map_ok ob hd
  rw [← open_eq] at eo
  have hn0 := M.one
  have hn8 := M.most
  have h62 : In62 (n : Int) := in62 (by omega) (by omega)
  have hnl : n ≤ 16777216 := by omega
  obtain ⟨x7, x8, x9, x10, ef⟩ := out_ok (.list (ns.map .int)) ob' M
  have hlen : lenP (plan n D) = .ok (.int n) := by simp [plan]
  have hnm : n - 1 + 1 = n := by omega
  have m1 := middle_ok (D := D) hn0 hn8
  have m2 := centre_ok (D := D) hn0 hn8
  have m3 := widest_ok (D := D) hn0 hn8
  have w0 : pm (R D n 0) (R D n) n = pm 0 (R D n) n := (pm_start (f := R D n) hn0 fun j hj => Int.le_trans (M.nn j 0 hj hn0) (pm_ge (f := D j) hn0)).symm
  rw [w0] at m3
  have i1 := idx_am (S D n) (n - 1)
  have i2 := idx_am (R D n) (n - 1)
  have p1 := minP_ints (S D n) (n - 1)
  have p2 := minP_ints (R D n) (n - 1)
  rw [hnm] at i1 i2 p1 p2
  have sh : ∀ f : Nat → Int, SeqAt.shaped (.list ((List.range n).map fun j => .int (f j))) = true := fun f => by
    have := (shaped_ints ((List.range n).map f)).1
    rw [List.map_map] at this; exact this
  have hc : am (R D n) (n - 1) < n := by have := (am_spec (R D n) (n - 1)).1; omega
  have rc := reach_ok (D := D) hc
  have fin : pm 0 (R D n) n ≤ 2 * pm (D (am (R D n) (n - 1)) 0) (D (am (R D n) (n - 1))) n := by
    generalize am (R D n) (n - 1) = c at hc
    refine pm_le.mpr ⟨?_, fun i hi => pm_le.mpr ⟨?_, fun j hj => ?_⟩⟩
    · have := M.nn c 0 hc hn0
      have h2 : D c 0 ≤ pm (D c 0) (D c) n := pm_ge0
      omega
    · have a1 := M.tri i 0 c hi hn0 hc
      have a2 := M.sym i c hi hc
      have a3 : D c i ≤ pm (D c 0) (D c) n := pm_ge hi
      have a4 : D c 0 ≤ pm (D c 0) (D c) n := pm_ge hn0
      omega
    · have a1 := M.tri i j c hi hj hc
      have a2 := M.sym i c hi hc
      have a3 : D c i ≤ pm (D c 0) (D c) n := pm_ge hi
      have a4 : D c j ≤ pm (D c 0) (D c) n := pm_ge hj
      omega
  have last : ∀ ρ8 ρ9 ρ10 st, lcG ⟨(List.range n).map fun (j : Nat) => PyData.int (j : Int), none⟩ (gSet 7) m_law_t1 m_law_c1 [some (.p (.list (ns.map .int))), some (.loc 0), some (.p (plan n D)), some (.p (.int n)), some (.loc 1), some (.loc 2), some (.p (.int (pm 0 (R D n) n))), none, ρ8, ρ9, ρ10] ((List.range n).map fun (j : Nat) => PyData.int (j : Int)) st = .ok ([], st) := fun ρ8 ρ9 ρ10 st => by
    have := lcG_filter (src := (List.range n).map fun (j : Nat) => PyData.int (j : Int)) (gt := gSet 7) (tt := m_law_t1) (fe := m_law_c1) (ρ := [some (.p (.list (ns.map .int))), some (.loc 0), some (.p (plan n D)), some (.p (.int n)), some (.loc 1), some (.loc 2), some (.p (.int (pm 0 (R D n) n))), none, ρ8, ρ9, ρ10]) (st := st) (fun _ => false) id (ds := (List.range n).map fun (j : Nat) => PyData.int (j : Int)) fun d hd => by
      obtain ⟨i, hi, rfl⟩ := mem_range hd
      refine ⟨_, rfl, ?_, fun h => by cases h⟩
      have r1 := reach_ok (D := D) hi
      have r2 : ¬ pm 0 (R D n) n < pm (D i 0) (D i) n := Int.not_lt.mpr (pm_ge (f := R D n) hi)
      simp [m_law_t1, r1, m3, r2]
    rw [this, List.filter_eq_nil_iff.mpr (by simp)]; rfl
  have mk : ∀ a : Int, PySem.IntMulOk 2 a := fun a => CMul.ok (.inl (by decide))
  have e0 : eqP false (.list []) (.list []) = .ok (.bool true) := by
    have := (shaped_ints []).1
    simp only [List.map_nil] at this
    simp [eqP, this, PyData.eqv, PyData.eqvAll]
  simp at eo
  refine ⟨[], ?_⟩
  simp [m_law, eo, em, hlen, h62, ef, m1, m2, m3, isLstV, peek, mIndex, p1, p2, sh, i1, i2, rc, mk, fin, last, e0]
end K59

namespace K59
open PySem PySem.Spec PyProof.Rows L2 VL
theorem ok_sum_of {P : Program} {w : World} {K : PySem.W.Frag} {mg : Str → Option Value} {base : Heap} (T : Top K mg) : FnOk P w K mg base CX0 1 T.a_sum_of T.d_sum_of ["map_told", "place"] (spV K noX 2 m_sum_of) :=
  fn_ok T.F_sum_of sc_sum_of leaves_F fun cdv A outer s H E hr =>
    have hu4 := hr.units; have hu5 := room65 hr
    vss_one (vs_ret (ve_callB (cv_sum rfl) (by rfl) T.n_sum (by decide +kernel) (va_cons (ve_sub hu5 (ve_var 0) (ve_var 1)) (va_nil))))

theorem ok_reach_of {P : Program} {w : World} {K : PySem.W.Frag} {mg : Str → Option Value} {base : Heap} (T : Top K mg) : FnOk P w K mg base CX0 1 T.a_reach_of T.d_reach_of ["map_told", "place"] (spV K noX 2 m_reach_of) :=
  fn_ok T.F_reach_of sc_reach_of leaves_F fun cdv A outer s H E hr =>
    have hu4 := hr.units; have hu5 := room65 hr
    vss_one (vs_ret (ve_callB (cv_max rfl hu5) (by rfl) T.n_max (by decide +kernel) (va_cons (ve_sub hu5 (ve_var 0) (ve_var 1)) (va_nil))))

theorem ok_middle {P : Program} {w : World} {K : PySem.W.Frag} {mg : Str → Option Value} {base : Heap} (T : Top K mg) : FnOk P w K mg base CX0 2 T.a_middle T.d_middle ["map_told"] (spV K noX 1 m_middle) :=
  fn_ok T.F_middle sc_middle leaves_F fun cdv A outer s H E hr =>
    have hu4 := hr.units; have hu5 := room65 hr
    vss_one (vs_ret (ve_sub hu5 (ve_callB (cv_min rfl hu5) (by rfl) T.n_min (by decide +kernel) (va_cons (ve_fz (vn_lc (own := [("place", 1)]) rfl sc_middle.nd (vi_range1 (by rfl) T.n_range (ve_callB (cv_len) (by rfl) T.n_len (by decide +kernel) (va_cons (ve_var 0) (va_nil)))) (blkOk_by (by rfl)) (fun _ _ _ _ _ => vg_name (i := 1) sc_middle.nd rfl (by first | exact .inl rfl | exact .inr rfl)) (fun _ _ _ _ _ => vts_nil) (fun _ _ _ _ _ => ve_tup (va_cons (ve_def ((ok_sum_of T).mono (by decide)) hr (by rfl) T.g_sum_of T.F_sum_of.kp T.b_sum_of (va_cons (ve_var 0) (va_cons (ve_var 1) (va_nil)))) (va_cons (ve_var 1) (va_nil)))))) (va_nil))) (ve_int)))

theorem ok_centre {P : Program} {w : World} {K : PySem.W.Frag} {mg : Str → Option Value} {base : Heap} (T : Top K mg) : FnOk P w K mg base CX0 2 T.a_centre T.d_centre ["map_told"] (spV K noX 1 m_centre) :=
  fn_ok T.F_centre sc_centre leaves_F fun cdv A outer s H E hr =>
    have hu4 := hr.units; have hu5 := room65 hr
    vss_one (vs_ret (ve_sub hu5 (ve_callB (cv_min rfl hu5) (by rfl) T.n_min (by decide +kernel) (va_cons (ve_fz (vn_lc (own := [("place", 1)]) rfl sc_centre.nd (vi_range1 (by rfl) T.n_range (ve_callB (cv_len) (by rfl) T.n_len (by decide +kernel) (va_cons (ve_var 0) (va_nil)))) (blkOk_by (by rfl)) (fun _ _ _ _ _ => vg_name (i := 1) sc_centre.nd rfl (by first | exact .inl rfl | exact .inr rfl)) (fun _ _ _ _ _ => vts_nil) (fun _ _ _ _ _ => ve_tup (va_cons (ve_def ((ok_reach_of T).mono (by decide)) hr (by rfl) T.g_reach_of T.F_reach_of.kp T.b_reach_of (va_cons (ve_var 0) (va_cons (ve_var 1) (va_nil)))) (va_cons (ve_var 1) (va_nil)))))) (va_nil))) (ve_int)))

theorem ok_widest_apart {P : Program} {w : World} {K : PySem.W.Frag} {mg : Str → Option Value} {base : Heap} (T : Top K mg) : FnOk P w K mg base CX0 2 T.a_widest_apart T.d_widest_apart ["map_told"] (spV K noX 1 m_widest_apart) :=
  fn_ok T.F_widest_apart sc_widest_apart leaves_F fun cdv A outer s H E hr =>
    have hu4 := hr.units; have hu5 := room65 hr
    vss_one (vs_ret (ve_callB (cv_max rfl hu5) (by rfl) T.n_max (by decide +kernel) (va_cons (ve_fz (vn_lc (own := [("place", 1)]) rfl sc_widest_apart.nd (vi_range1 (by rfl) T.n_range (ve_callB (cv_len) (by rfl) T.n_len (by decide +kernel) (va_cons (ve_var 0) (va_nil)))) (blkOk_by (by rfl)) (fun _ _ _ _ _ => vg_name (i := 1) sc_widest_apart.nd rfl (by first | exact .inl rfl | exact .inr rfl)) (fun _ _ _ _ _ => vts_nil) (fun _ _ _ _ _ => ve_def ((ok_reach_of T).mono (by decide)) hr (by rfl) T.g_reach_of T.F_reach_of.kp T.b_reach_of (va_cons (ve_var 0) (va_cons (ve_var 1) (va_nil)))))) (va_nil))))

theorem ok__law_open {P : Program} {w : World} {K : PySem.W.Frag} {mg : Str → Option Value} {base : Heap} (T : Top K mg) : FnOk P w K mg base CX0 1 T.a__law_open T.d__law_open ["script"] (spV K noX 1 m__law_open) :=
  fn_ok T.F__law_open sc__law_open leaves_N fun cdv A outer s H E hr =>
    have hu4 := hr.units; have hu5 := room65 hr
    vss_cons (vs_setLc (i := 1) (f := vFz) RN.fz (own := [("cell", 2)]) rfl sc__law_open.nd rfl rfl (vi_seq (ve_slice (ve_var 0) (vo_none) (vo_some (ve_int)))) (blkOk_by (by rfl)) (fun _ _ _ _ _ => vg_name (i := 2) sc__law_open.nd rfl (by first | exact .inl rfl | exact .inr rfl)) (fun _ _ _ _ _ => vts_nil) (fun _ _ _ _ _ => ve_callB (cv_abs) (by rfl) T.n_abs (by decide +kernel) (va_cons (ve_callTy (cv_int) (by rfl) T.n_int (by decide +kernel) (va_cons (ve_var 2) (va_nil))) (va_nil))))
      (vss_one (vs_ret (ve_own (vn_lst (va_cons (ve_int) (va_cons (ve_int) (va_cons (ve_op ov_add (ve_var 1) (ve_fz (vn_lst (va_cons (ve_int) (va_nil))))) (va_nil))))))))

theorem ok__law_mixed {P : Program} {w : World} {K : PySem.W.Frag} {mg : Str → Option Value} {base : Heap} (T : Top K mg) : FnOk P w K mg base CX0 1 T.a__law_mixed T.d__law_mixed ["cell", "turn"] (spV K noX 2 m__law_mixed) :=
  fn_ok T.F__law_mixed sc__law_mixed leaves_F fun cdv A outer s H E hr =>
    have hu4 := hr.units; have hu5 := room65 hr
    vss_cons (vs_set (i := 2) sc__law_mixed.nd rfl (by first | exact .inl rfl | exact .inr rfl) (ve_op ov_mod (ve_op ov_add (ve_op ov_add (ve_op ov_mul (ve_op ov_mod (ve_var 0) (ve_op ov_sub (ve_op ov_pow (ve_int) (ve_int)) (ve_int))) (ve_int)) (ve_op ov_mul (ve_var 1) (ve_int))) (ve_int)) (ve_op ov_pow (ve_int) (ve_int))))
      (vss_cons (vs_set (i := 2) sc__law_mixed.nd rfl (by first | exact .inl rfl | exact .inr rfl) (ve_op ov_mod (ve_op ov_mul (ve_op ov_xor (ve_var 2) (ve_op ov_shr (ve_var 2) (ve_int))) (ve_int)) (ve_op ov_pow (ve_int) (ve_int))))
      (vss_one (vs_ret (ve_op ov_mod (ve_op ov_mul (ve_op ov_xor (ve_var 2) (ve_op ov_shr (ve_var 2) (ve_int))) (ve_int)) (ve_op ov_pow (ve_int) (ve_int))))))

theorem ok__law_draw {P : Program} {w : World} {K : PySem.W.Frag} {mg : Str → Option Value} {base : Heap} (T : Top K mg) : FnOk P w K mg base CX0 2 T.a__law_draw T.d__law_draw ["draws", "size"] (spV K noX 2 m__law_draw) :=
  fn_ok T.F__law_draw sc__law_draw leaves_F fun cdv A outer s H E hr =>
    have hu4 := hr.units; have hu5 := room65 hr
    vss_cons (vs_asg (ve_var 0) (vg_tup rfl (vgs_cons (vg_name (i := 2) sc__law_draw.nd rfl (by first | exact .inl rfl | exact .inr rfl)) (vgs_cons (vg_name (i := 3) sc__law_draw.nd rfl (by first | exact .inl rfl | exact .inr rfl)) (vgs_cons (vg_name (i := 4) sc__law_draw.nd rfl (by first | exact .inl rfl | exact .inr rfl)) (vgs_nil))))))
      (vss_cons (vs_if (vt_cmp (ov_lt hu4) (ve_var 3) (ve_var 1) (by first | rfl | exact nobehind _ (by decide) (by decide))) (vss_cons (vs_set (i := 5) sc__law_draw.nd rfl (by first | exact .inl rfl | exact .inr rfl) (ve_sub hu5 (ve_var 4) (ve_op ov_mod (ve_var 2) (ve_callB (cv_len) (by rfl) T.n_len (by decide +kernel) (va_cons (ve_var 4) (va_nil))))))
      (vss_cons (vs_set (i := 3) sc__law_draw.nd rfl (by first | exact .inl rfl | exact .inr rfl) (ve_if ((vw_and (vt_cmp (ov_lt hu4) (ve_var 2) (ve_callB (cv_len) (by rfl) T.n_len (by decide +kernel) (va_cons (ve_var 4) (va_nil))) (by first | rfl | exact nobehind _ (by decide) (by decide))) (vw_and1 (vt_cmp (ov_ge hu4) (ve_var 5) (ve_op ov_pow (ve_int) (ve_int)) (by first | rfl | exact nobehind _ (by decide) (by decide))))).vt) (ve_var 5) (ve_def ((ok__law_mixed T).mono (by decide)) hr (by rfl) T.g__law_mixed T.F__law_mixed.kp T.b__law_mixed (va_cons (ve_var 5) (va_cons (ve_var 2) (va_nil))))))
      (vss_one (vs_set (i := 2) sc__law_draw.nd rfl (by first | exact .inl rfl | exact .inr rfl) (ve_op ov_add (ve_var 2) (ve_int)))))) (vss_nil))
      (vss_cons (vs_put hu4 (ve_var 2) (ve_var 0) (ve_int))
      (vss_cons (vs_put hu4 (ve_op ov_fdiv (ve_var 3) (ve_var 1)) (ve_var 0) (ve_int))
      (vss_one (vs_ret (ve_op ov_mod (ve_var 3) (ve_var 1)))))))

theorem ok__law_int {P : Program} {w : World} {K : PySem.W.Frag} {mg : Str → Option Value} {base : Heap} (T : Top K mg) : FnOk P w K mg base CX0 1 T.a__law_int T.d__law_int ["value"] (spV K noX 1 m__law_int) :=
  fn_ok T.F__law_int sc__law_int leaves_F fun cdv A outer s H E hr =>
    have hu4 := hr.units; have hu5 := room65 hr
    vss_one (vs_ret (ve_and (ve_isi (T := "int") (ve_var 0) kit_int (by rfl) T.n_isinstance (by decide +kernel) (by rfl) T.n_int (by decide +kernel)) (ve_one (ve_not (ve_isi (T := "bool") (ve_var 0) kit_bool (by rfl) T.n_isinstance (by decide +kernel) (by rfl) T.n_bool (by decide +kernel))))))

theorem ok__law_map {P : Program} {w : World} {K : PySem.W.Frag} {mg : Str → Option Value} {base : Heap} (T : Top K mg) : FnOk P w K mg base CX0 3 T.a__law_map T.d__law_map ["draws", "most"] (spV K noX 2 m__law_map) :=
  fn_ok T.F__law_map sc__law_map leaves_F fun cdv A outer s H E hr =>
    have hu4 := hr.units; have hu5 := room65 hr
    vss_cons (vs_set (i := 2) sc__law_map.nd rfl (by first | exact .inl rfl | exact .inr rfl) (ve_op ov_add (ve_int) (ve_def ((ok__law_draw T).mono (by decide)) hr (by rfl) T.g__law_draw T.F__law_draw.kp T.b__law_draw (va_cons (ve_var 0) (va_cons (ve_var 1) (va_nil))))))
      (vss_cons (vs_set (i := 3) sc__law_map.nd rfl (by first | exact .inl rfl | exact .inr rfl) (ve_def ((ok__law_draw T).mono (by decide)) hr (by rfl) T.g__law_draw T.F__law_draw.kp T.b__law_draw (va_cons (ve_var 0) (va_cons (ve_int) (va_nil)))))
      (vss_cons (vs_if (vt_cmp (ov_lt hu4) (ve_var 3) (ve_int) (by first | rfl | exact nobehind _ (by decide) (by decide))) (vss_cons (vs_set (i := 7) sc__law_map.nd rfl (by first | exact .inl rfl | exact .inr rfl) (ve_fz (vn_lc (own := [("place", 9)]) rfl sc__law_map.nd (vi_range1 (by rfl) T.n_range (ve_var 2)) (blkOk_by (by rfl)) (fun _ _ _ _ _ => vg_name (i := 9) sc__law_map.nd rfl (by first | exact .inl rfl | exact .inr rfl)) (fun _ _ _ _ _ => vts_nil) (fun _ _ _ _ _ => ve_tup (va_cons (ve_def ((ok__law_draw T).mono (by decide)) hr (by rfl) T.g__law_draw T.F__law_draw.kp T.b__law_draw (va_cons (ve_var 0) (va_cons (ve_int) (va_nil)))) (va_cons (ve_op ov_mul (ve_def ((ok__law_draw T).mono (by decide)) hr (by rfl) T.g__law_draw T.F__law_draw.kp T.b__law_draw (va_cons (ve_var 0) (va_cons (ve_int) (va_nil)))) (ve_var 3)) (va_nil)))))))
      (vss_one (vs_ret (ve_callTy (cv_tuple) (by rfl) T.n_tuple (by decide +kernel) (va_cons (ve_fz (vn_lc (own := [("one", 5)]) rfl sc__law_map.nd (vi_seq (ve_var 7)) (blkOk_by (by rfl)) (fun _ _ _ _ _ => vg_name (i := 5) sc__law_map.nd rfl (by first | exact .inl rfl | exact .inr rfl)) (fun _ _ _ _ _ => vts_nil) (fun _ _ _ _ _ => ve_callTy (cv_tuple) (by rfl) T.n_tuple (by decide +kernel) (va_cons (ve_fz (vn_lc (own := [("other", 8)]) rfl sc__law_map.nd (vi_seq (ve_var 7)) (blkOk_by (by rfl)) (fun _ _ _ _ _ => vg_name (i := 8) sc__law_map.nd rfl (by first | exact .inl rfl | exact .inr rfl)) (fun _ _ _ _ _ => vts_nil) (fun _ _ _ _ _ => ve_op ov_add (ve_callB (cv_abs) (by rfl) T.n_abs (by decide +kernel) (va_cons (ve_op ov_sub (ve_sub hu5 (ve_var 5) (ve_int)) (ve_sub hu5 (ve_var 8) (ve_int))) (va_nil))) (ve_callB (cv_abs) (by rfl) T.n_abs (by decide +kernel) (va_cons (ve_op ov_sub (ve_sub hu5 (ve_var 5) (ve_int)) (ve_sub hu5 (ve_var 8) (ve_int))) (va_nil)))))) (va_nil))))) (va_nil)))))) (vss_nil))
      (vss_cons (vs_set (i := 4) sc__law_map.nd rfl (by first | exact .inl rfl | exact .inr rfl) (ve_own (vn_dctT)))
      (vss_cons (vs_for PassesOwn.never rfl (vi_range1 (by rfl) T.n_range (ve_var 2)) (vg_name (i := 5) sc__law_map.nd rfl (by first | exact .inl rfl | exact .inr rfl)) (vss_cons (vs_for PassesOwn.never rfl (vi_range1 (by rfl) T.n_range (ve_var 5)) (vg_name (i := 8) sc__law_map.nd rfl (by first | exact .inl rfl | exact .inr rfl)) (vss_cons (vs_put hu4 (ve_op ov_add (ve_int) (ve_def ((ok__law_draw T).mono (by decide)) hr (by rfl) T.g__law_draw T.F__law_draw.kp T.b__law_draw (va_cons (ve_var 0) (va_cons (ve_int) (va_nil))))) (ve_var 4) (ve_tup (va_cons (ve_var 5) (va_cons (ve_var 8) (va_nil)))))
      (vss_one (vs_put hu4 (ve_sub hu5 (ve_var 4) (ve_tup (va_cons (ve_var 5) (va_cons (ve_var 8) (va_nil))))) (ve_var 4) (ve_tup (va_cons (ve_var 8) (va_cons (ve_var 5) (va_nil))))))))
      (vss_one (vs_put hu4 (ve_int) (ve_var 4) (ve_tup (va_cons (ve_var 5) (va_cons (ve_var 5) (va_nil))))))))
      (vss_cons (vs_for PassesOwn.never rfl (vi_range1 (by rfl) T.n_range (ve_var 2)) (vg_name (i := 6) sc__law_map.nd rfl (by first | exact .inl rfl | exact .inr rfl)) (vss_one (vs_for PassesOwn.never rfl (vi_range1 (by rfl) T.n_range (ve_var 2)) (vg_name (i := 5) sc__law_map.nd rfl (by first | exact .inl rfl | exact .inr rfl)) (vss_one (vs_for PassesOwn.never rfl (vi_range1 (by rfl) T.n_range (ve_var 2)) (vg_name (i := 8) sc__law_map.nd rfl (by first | exact .inl rfl | exact .inr rfl)) (vss_one (vs_put hu4 (ve_callB (cv_min rfl hu5) (by rfl) T.n_min (by decide +kernel) (va_cons (ve_sub hu5 (ve_var 4) (ve_tup (va_cons (ve_var 5) (va_cons (ve_var 8) (va_nil))))) (va_cons (ve_op ov_add (ve_sub hu5 (ve_var 4) (ve_tup (va_cons (ve_var 5) (va_cons (ve_var 6) (va_nil))))) (ve_sub hu5 (ve_var 4) (ve_tup (va_cons (ve_var 6) (va_cons (ve_var 8) (va_nil)))))) (va_nil)))) (ve_var 4) (ve_tup (va_cons (ve_var 5) (va_cons (ve_var 8) (va_nil)))))))))))
      (vss_one (vs_ret (ve_callTy (cv_tuple) (by rfl) T.n_tuple (by decide +kernel) (va_cons (ve_fz (vn_lc (own := [("one", 5)]) rfl sc__law_map.nd (vi_range1 (by rfl) T.n_range (ve_var 2)) (blkOk_by (by rfl)) (fun _ _ _ _ _ => vg_name (i := 5) sc__law_map.nd rfl (by first | exact .inl rfl | exact .inr rfl)) (fun _ _ _ _ _ => vts_nil) (fun _ _ _ _ _ => ve_callTy (cv_tuple) (by rfl) T.n_tuple (by decide +kernel) (va_cons (ve_fz (vn_lc (own := [("other", 8)]) rfl sc__law_map.nd (vi_range1 (by rfl) T.n_range (ve_var 2)) (blkOk_by (by rfl)) (fun _ _ _ _ _ => vg_name (i := 8) sc__law_map.nd rfl (by first | exact .inl rfl | exact .inr rfl)) (fun _ _ _ _ _ => vts_nil) (fun _ _ _ _ _ => ve_sub hu5 (ve_var 4) (ve_tup (va_cons (ve_var 5) (va_cons (ve_var 8) (va_nil))))))) (va_nil))))) (va_nil))))))))))

theorem ok_law {P : Program} {w : World} {K : PySem.W.Frag} {mg : Str → Option Value} {base : Heap} (T : Top K mg) : FnOk P w K mg base CX0 4 T.a_law T.d_law ["script"] (spV K noX 1 m_law) :=
  fn_ok T.F_law sc_law leaves_F fun cdv A outer s H E hr =>
    have hu4 := hr.units; have hu5 := room65 hr
    vss_cons (vs_set (i := 1) sc_law.nd rfl (by first | exact .inl rfl | exact .inr rfl) (ve_def ((ok__law_open T).mono (by decide)) hr (by rfl) T.g__law_open T.F__law_open.kp T.b__law_open (va_cons (ve_var 0) (va_nil))))
      (vss_cons (vs_set (i := 2) sc_law.nd rfl (by first | exact .inl rfl | exact .inr rfl) (ve_def ((ok__law_map T).mono (by decide)) hr (by rfl) T.g__law_map T.F__law_map.kp T.b__law_map (va_cons (ve_var 1) (va_cons (ve_int) (va_nil)))))
      (vss_cons (vs_set (i := 3) sc_law.nd rfl (by first | exact .inl rfl | exact .inr rfl) (ve_callB (cv_len) (by rfl) T.n_len (by decide +kernel) (va_cons (ve_var 2) (va_nil))))
      (vss_cons (vs_asgS (sl := [(4, "sums"), (5, "reaches"), (6, "widest")]) rfl sc_law.nd (va_cons (ve_own (vn_lst (va_nil))) (va_cons (ve_own (vn_lst (va_nil))) (va_cons (ve_int) (va_nil)))) (slk_cons rfl rfl (slk_cons rfl rfl (slk_cons rfl rfl (slk_nil)))))
      (vss_cons (vs_for PassesOwn.never rfl (vi_range1 (by rfl) T.n_range (ve_var 3)) (vg_name (i := 7) sc_law.nd rfl (by first | exact .inl rfl | exact .inr rfl)) (vss_cons (vs_asgT rfl (va_cons (ve_int) (va_cons (ve_int) (va_nil))) (vgs_cons (vg_name (i := 8) sc_law.nd rfl (by first | exact .inl rfl | exact .inr rfl)) (vgs_cons (vg_name (i := 9) sc_law.nd rfl (by first | exact .inl rfl | exact .inr rfl)) (vgs_nil))))
      (vss_cons (vs_for PassesOwn.never rfl (vi_range1 (by rfl) T.n_range (ve_var 3)) (vg_name (i := 10) sc_law.nd rfl (by first | exact .inl rfl | exact .inr rfl)) (vss_cons (vs_aug (i := 8) sc_law.nd rfl (by first | exact .inl rfl | exact .inr rfl) iv_add (ve_sub hu5 (ve_sub hu5 (ve_var 2) (ve_var 7)) (ve_var 10)))
      (vss_cons (vs_set (i := 9) sc_law.nd rfl (by first | exact .inl rfl | exact .inr rfl) (ve_callB (cv_max rfl hu5) (by rfl) T.n_max (by decide +kernel) (va_cons (ve_var 9) (va_cons (ve_sub hu5 (ve_sub hu5 (ve_var 2) (ve_var 7)) (ve_var 10)) (va_nil)))))
      (vss_one (vs_set (i := 6) sc_law.nd rfl (by first | exact .inl rfl | exact .inr rfl) (ve_callB (cv_max rfl hu5) (by rfl) T.n_max (by decide +kernel) (va_cons (ve_var 6) (va_cons (ve_sub hu5 (ve_sub hu5 (ve_var 2) (ve_var 7)) (ve_var 10)) (va_nil)))))))))
      (vss_cons (vs_expr (ve_mth PySem.F.plainAttrs_list PySem.F.slot_list_append PySem.F.type_list_append mv_append (ve_var 4) (va_cons (ve_var 8) (va_nil))))
      (vss_cons (vs_expr (ve_mth PySem.F.plainAttrs_list PySem.F.slot_list_append PySem.F.type_list_append mv_append (ve_var 5) (va_cons (ve_var 9) (va_nil))))
      (vss_one (vs_if ((vw_or (vt_cmp (ov_ne hu4) (ve_def ((ok_sum_of T).mono (by decide)) hr (by rfl) T.g_sum_of T.F_sum_of.kp T.b_sum_of (va_cons (ve_var 2) (va_cons (ve_var 7) (va_nil)))) (ve_var 8) (by first | rfl | exact nobehind _ (by decide) (by decide))) (vw_or (vt_cmp (ov_ne hu4) (ve_def ((ok_reach_of T).mono (by decide)) hr (by rfl) T.g_reach_of T.F_reach_of.kp T.b_reach_of (va_cons (ve_var 2) (va_cons (ve_var 7) (va_nil)))) (ve_var 9) (by first | rfl | exact nobehind _ (by decide) (by decide))) (vw_or1 (vt_not (vt_tru (ve_def ((ok__law_int T).mono (by decide)) hr (by rfl) T.g__law_int T.F__law_int.kp T.b__law_int (va_cons (ve_def ((ok_sum_of T).mono (by decide)) hr (by rfl) T.g_sum_of T.F_sum_of.kp T.b_sum_of (va_cons (ve_var 2) (va_cons (ve_var 7) (va_nil)))) (va_nil)))))))).vt) (vss_one (vs_ret (ve_bl))) (vss_nil))))))))
      (vss_cons (vs_if ((vw_or (vt_cmp (ov_ne hu4) (ve_def ((ok_middle T).mono (by decide)) hr (by rfl) T.g_middle T.F_middle.kp T.b_middle (va_cons (ve_var 2) (va_nil))) (ve_mth PySem.F.plainAttrs_list PySem.F.slot_list_index PySem.F.type_list_index (mv_index hu5) (ve_var 4) (va_cons (ve_callB (cv_min rfl hu5) (by rfl) T.n_min (by decide +kernel) (va_cons (ve_var 4) (va_nil))) (va_nil))) (by first | rfl | exact nobehind _ (by decide) (by decide))) (vw_or (vt_cmp (ov_ne hu4) (ve_def ((ok_centre T).mono (by decide)) hr (by rfl) T.g_centre T.F_centre.kp T.b_centre (va_cons (ve_var 2) (va_nil))) (ve_mth PySem.F.plainAttrs_list PySem.F.slot_list_index PySem.F.type_list_index (mv_index hu5) (ve_var 5) (va_cons (ve_callB (cv_min rfl hu5) (by rfl) T.n_min (by decide +kernel) (va_cons (ve_var 5) (va_nil))) (va_nil))) (by first | rfl | exact nobehind _ (by decide) (by decide))) (vw_or1 (vt_cmp (ov_ne hu4) (ve_def ((ok_widest_apart T).mono (by decide)) hr (by rfl) T.g_widest_apart T.F_widest_apart.kp T.b_widest_apart (va_cons (ve_var 2) (va_nil))) (ve_var 6) (by first | rfl | exact nobehind _ (by decide) (by decide)))))).vt) (vss_one (vs_ret (ve_bl))) (vss_nil))
      (vss_one (vs_ret (ve_and (ve_cmp (ov_le hu4) (ve_var 6) (ve_op ov_mul (ve_int) (ve_def ((ok_reach_of T).mono (by decide)) hr (by rfl) T.g_reach_of T.F_reach_of.kp T.b_reach_of (va_cons (ve_var 2) (va_cons (ve_def ((ok_centre T).mono (by decide)) hr (by rfl) T.g_centre T.F_centre.kp T.b_centre (va_cons (ve_var 2) (va_nil))) (va_nil))))) (by first | rfl | exact nobehind _ (by decide) (by decide))) (ve_one (ve_cmp (ov_eq hu4) (ve_fz (vn_lc (own := [("one", 7)]) rfl sc_law.nd (vi_range1 (by rfl) T.n_range (ve_var 3)) (blkOk_by (by rfl)) (fun _ _ _ _ _ => vg_name (i := 7) sc_law.nd rfl (by first | exact .inl rfl | exact .inr rfl)) (fun _ _ _ _ _ => vts_one (vt_cmp (ov_gt hu4) (ve_def ((ok_reach_of T).mono (by decide)) hr (by rfl) T.g_reach_of T.F_reach_of.kp T.b_reach_of (va_cons (ve_var 2) (va_cons (ve_var 7) (va_nil)))) (ve_def ((ok_widest_apart T).mono (by decide)) hr (by rfl) T.g_widest_apart T.F_widest_apart.kp T.b_widest_apart (va_cons (ve_var 2) (va_nil))) (by first | rfl | exact nobehind _ (by decide) (by decide)))) (fun _ _ _ _ _ => ve_var 7))) (ve_fz (vn_lst (va_nil))) (by first | rfl | exact nobehind _ (by decide) (by decide))))))))))))

end K59

namespace K59
open PySem PySem.Spec PyProof.Rows L2 VL
theorem all_mk {w : World} {K : PySem.W.Frag} {h : Heap} {mg : Str → Option Value} {fa f0 f1 f2 f3 f4 f5 f6 f7 f8 f9 f10 : Addr} (X : K.In h) (G : h.Ns mainGlobals mg) (hfa : mg "law" = some (.ref fa))
    {oc0 : Value} {od0 an0 : Option Addr} {sl0 : Array (Option Value)} {kV0 dc0 pm0 cd0 ct0 : Value}
    {oc1 : Value} {od1 an1 : Option Addr} {sl1 : Array (Option Value)} {kV1 dc1 pm1 cd1 ct1 : Value}
    {oc2 : Value} {od2 an2 : Option Addr} {sl2 : Array (Option Value)} {kV2 dc2 pm2 cd2 ct2 : Value}
    {oc3 : Value} {od3 an3 : Option Addr} {sl3 : Array (Option Value)} {kV3 dc3 pm3 cd3 ct3 : Value}
    {oc4 : Value} {od4 an4 : Option Addr} {sl4 : Array (Option Value)} {kV4 dc4 pm4 cd4 ct4 : Value}
    {oc5 : Value} {od5 an5 : Option Addr} {sl5 : Array (Option Value)} {kV5 dc5 pm5 cd5 ct5 : Value}
    {oc6 : Value} {od6 an6 : Option Addr} {sl6 : Array (Option Value)} {kV6 dc6 pm6 cd6 ct6 : Value}
    {oc7 : Value} {od7 an7 : Option Addr} {sl7 : Array (Option Value)} {kV7 dc7 pm7 cd7 ct7 : Value}
    {oc8 : Value} {od8 an8 : Option Addr} {sl8 : Array (Option Value)} {kV8 dc8 pm8 cd8 ct8 : Value}
    {oc9 : Value} {od9 an9 : Option Addr} {sl9 : Array (Option Value)} {kV9 dc9 pm9 cd9 ct9 : Value}
    {oc10 : Value} {od10 an10 : Option Addr} {sl10 : Array (Option Value)} {kV10 dc10 pm10 cd10 ct10 : Value}
    (a0 : PySem.W.nsIn K mainGlobals "sum_of" = some (some (.ref f0))) (l0 : K.lookup f0 = some ⟨oc0, od0, .func (PySem.W.fnOf "sum_of" "sum_of" (defArgs (K59.topS 1)) (defBody (K59.topS 1)) (defScope (K59.topS 1)) .none kV0 dc0 pm0 an0 cd0 ct0), sl0⟩) (c0 : PySem.W.codeIn K cd0 "sum_of" = true) (k0 : PySem.W.keepIn K (.ref f0) = true)
    (a1 : PySem.W.nsIn K mainGlobals "reach_of" = some (some (.ref f1))) (l1 : K.lookup f1 = some ⟨oc1, od1, .func (PySem.W.fnOf "reach_of" "reach_of" (defArgs (K59.topS 2)) (defBody (K59.topS 2)) (defScope (K59.topS 2)) .none kV1 dc1 pm1 an1 cd1 ct1), sl1⟩) (c1 : PySem.W.codeIn K cd1 "reach_of" = true) (k1 : PySem.W.keepIn K (.ref f1) = true)
    (a2 : PySem.W.nsIn K mainGlobals "middle" = some (some (.ref f2))) (l2 : K.lookup f2 = some ⟨oc2, od2, .func (PySem.W.fnOf "middle" "middle" (defArgs (K59.topS 3)) (defBody (K59.topS 3)) (defScope (K59.topS 3)) .none kV2 dc2 pm2 an2 cd2 ct2), sl2⟩) (c2 : PySem.W.codeIn K cd2 "middle" = true) (k2 : PySem.W.keepIn K (.ref f2) = true)
    (a3 : PySem.W.nsIn K mainGlobals "centre" = some (some (.ref f3))) (l3 : K.lookup f3 = some ⟨oc3, od3, .func (PySem.W.fnOf "centre" "centre" (defArgs (K59.topS 4)) (defBody (K59.topS 4)) (defScope (K59.topS 4)) .none kV3 dc3 pm3 an3 cd3 ct3), sl3⟩) (c3 : PySem.W.codeIn K cd3 "centre" = true) (k3 : PySem.W.keepIn K (.ref f3) = true)
    (a4 : PySem.W.nsIn K mainGlobals "widest_apart" = some (some (.ref f4))) (l4 : K.lookup f4 = some ⟨oc4, od4, .func (PySem.W.fnOf "widest_apart" "widest_apart" (defArgs (K59.topS 5)) (defBody (K59.topS 5)) (defScope (K59.topS 5)) .none kV4 dc4 pm4 an4 cd4 ct4), sl4⟩) (c4 : PySem.W.codeIn K cd4 "widest_apart" = true) (k4 : PySem.W.keepIn K (.ref f4) = true)
    (a5 : PySem.W.nsIn K mainGlobals "_law_open" = some (some (.ref f5))) (l5 : K.lookup f5 = some ⟨oc5, od5, .func (PySem.W.fnOf "_law_open" "_law_open" (defArgs (K59.topS 7)) (defBody (K59.topS 7)) (defScope (K59.topS 7)) .none kV5 dc5 pm5 an5 cd5 ct5), sl5⟩) (c5 : PySem.W.codeIn K cd5 "_law_open" = true) (k5 : PySem.W.keepIn K (.ref f5) = true)
    (a6 : PySem.W.nsIn K mainGlobals "_law_mixed" = some (some (.ref f6))) (l6 : K.lookup f6 = some ⟨oc6, od6, .func (PySem.W.fnOf "_law_mixed" "_law_mixed" (defArgs (K59.topS 8)) (defBody (K59.topS 8)) (defScope (K59.topS 8)) .none kV6 dc6 pm6 an6 cd6 ct6), sl6⟩) (c6 : PySem.W.codeIn K cd6 "_law_mixed" = true) (k6 : PySem.W.keepIn K (.ref f6) = true)
    (a7 : PySem.W.nsIn K mainGlobals "_law_draw" = some (some (.ref f7))) (l7 : K.lookup f7 = some ⟨oc7, od7, .func (PySem.W.fnOf "_law_draw" "_law_draw" (defArgs (K59.topS 9)) (defBody (K59.topS 9)) (defScope (K59.topS 9)) .none kV7 dc7 pm7 an7 cd7 ct7), sl7⟩) (c7 : PySem.W.codeIn K cd7 "_law_draw" = true) (k7 : PySem.W.keepIn K (.ref f7) = true)
    (a8 : PySem.W.nsIn K mainGlobals "_law_int" = some (some (.ref f8))) (l8 : K.lookup f8 = some ⟨oc8, od8, .func (PySem.W.fnOf "_law_int" "_law_int" (defArgs (K59.topS 10)) (defBody (K59.topS 10)) (defScope (K59.topS 10)) .none kV8 dc8 pm8 an8 cd8 ct8), sl8⟩) (c8 : PySem.W.codeIn K cd8 "_law_int" = true) (k8 : PySem.W.keepIn K (.ref f8) = true)
    (a9 : PySem.W.nsIn K mainGlobals "_law_map" = some (some (.ref f9))) (l9 : K.lookup f9 = some ⟨oc9, od9, .func (PySem.W.fnOf "_law_map" "_law_map" (defArgs (K59.topS 11)) (defBody (K59.topS 11)) (defScope (K59.topS 11)) .none kV9 dc9 pm9 an9 cd9 ct9), sl9⟩) (c9 : PySem.W.codeIn K cd9 "_law_map" = true) (k9 : PySem.W.keepIn K (.ref f9) = true)
    (a10 : PySem.W.nsIn K mainGlobals "law" = some (some (.ref f10))) (l10 : K.lookup f10 = some ⟨oc10, od10, .func (PySem.W.fnOf "law" "law" (defArgs (K59.topS 12)) (defBody (K59.topS 12)) (defScope (K59.topS 12)) .none kV10 dc10 pm10 an10 cd10 ct10), sl10⟩) (c10 : PySem.W.codeIn K cd10 "law" = true) (k10 : PySem.W.keepIn K (.ref f10) = true)
    (z_abs : PySem.W.nsIn K mainGlobals "abs" = some none)
    (z_bool : PySem.W.nsIn K mainGlobals "bool" = some none)
    (z_int : PySem.W.nsIn K mainGlobals "int" = some none)
    (z_isinstance : PySem.W.nsIn K mainGlobals "isinstance" = some none)
    (z_len : PySem.W.nsIn K mainGlobals "len" = some none)
    (z_max : PySem.W.nsIn K mainGlobals "max" = some none)
    (z_min : PySem.W.nsIn K mainGlobals "min" = some none)
    (z_range : PySem.W.nsIn K mainGlobals "range" = some none)
    (z_sum : PySem.W.nsIn K mainGlobals "sum" = some none)
    (z_tuple : PySem.W.nsIn K mainGlobals "tuple" = some none) :
    ∃ fd : FuncData, (∀ (s : Shared) (v : Value), BindsTo s fd ⟨[v], []⟩ [("script", v)]) ∧ ∀ base : Heap, K.In base → base.Ns mainGlobals mg → FnOk PySem.Challenge.rw_curtaintime_k59_whole_meeting_places.prog w K mg base CX0 4 fa fd ["script"] (spV K noX 1 m_law) := by
  have e := hfa.symm.trans (PySem.W.mg_of X G a10)
  cases e
  let T : Top K mg := {
    a_sum_of := f0
    d_sum_of := PySem.W.fnOf "sum_of" "sum_of" (defArgs (topS 1)) (defBody (topS 1)) (defScope (topS 1)) .none kV0 dc0 pm0 an0 cd0 ct0
    F_sum_of := fun_mk l0 c0 k0
    b_sum_of := Fun.binds (ps := ["map_told", "place"]) (fun_mk (st := topS 1) l0 c0 k0) fun _ _ _ _ _ _ us hl => match us, hl with | [_, _], _ => rfl
    g_sum_of := PySem.W.mg_of X G a0
    a_reach_of := f1
    d_reach_of := PySem.W.fnOf "reach_of" "reach_of" (defArgs (topS 2)) (defBody (topS 2)) (defScope (topS 2)) .none kV1 dc1 pm1 an1 cd1 ct1
    F_reach_of := fun_mk l1 c1 k1
    b_reach_of := Fun.binds (ps := ["map_told", "place"]) (fun_mk (st := topS 2) l1 c1 k1) fun _ _ _ _ _ _ us hl => match us, hl with | [_, _], _ => rfl
    g_reach_of := PySem.W.mg_of X G a1
    a_middle := f2
    d_middle := PySem.W.fnOf "middle" "middle" (defArgs (topS 3)) (defBody (topS 3)) (defScope (topS 3)) .none kV2 dc2 pm2 an2 cd2 ct2
    F_middle := fun_mk l2 c2 k2
    b_middle := Fun.binds (ps := ["map_told"]) (fun_mk (st := topS 3) l2 c2 k2) fun _ _ _ _ _ _ us hl => match us, hl with | [_], _ => rfl
    g_middle := PySem.W.mg_of X G a2
    a_centre := f3
    d_centre := PySem.W.fnOf "centre" "centre" (defArgs (topS 4)) (defBody (topS 4)) (defScope (topS 4)) .none kV3 dc3 pm3 an3 cd3 ct3
    F_centre := fun_mk l3 c3 k3
    b_centre := Fun.binds (ps := ["map_told"]) (fun_mk (st := topS 4) l3 c3 k3) fun _ _ _ _ _ _ us hl => match us, hl with | [_], _ => rfl
    g_centre := PySem.W.mg_of X G a3
    a_widest_apart := f4
    d_widest_apart := PySem.W.fnOf "widest_apart" "widest_apart" (defArgs (topS 5)) (defBody (topS 5)) (defScope (topS 5)) .none kV4 dc4 pm4 an4 cd4 ct4
    F_widest_apart := fun_mk l4 c4 k4
    b_widest_apart := Fun.binds (ps := ["map_told"]) (fun_mk (st := topS 5) l4 c4 k4) fun _ _ _ _ _ _ us hl => match us, hl with | [_], _ => rfl
    g_widest_apart := PySem.W.mg_of X G a4
    a__law_open := f5
    d__law_open := PySem.W.fnOf "_law_open" "_law_open" (defArgs (topS 7)) (defBody (topS 7)) (defScope (topS 7)) .none kV5 dc5 pm5 an5 cd5 ct5
    F__law_open := fun_mk l5 c5 k5
    b__law_open := Fun.binds (ps := ["script"]) (fun_mk (st := topS 7) l5 c5 k5) fun _ _ _ _ _ _ us hl => match us, hl with | [_], _ => rfl
    g__law_open := PySem.W.mg_of X G a5
    a__law_mixed := f6
    d__law_mixed := PySem.W.fnOf "_law_mixed" "_law_mixed" (defArgs (topS 8)) (defBody (topS 8)) (defScope (topS 8)) .none kV6 dc6 pm6 an6 cd6 ct6
    F__law_mixed := fun_mk l6 c6 k6
    b__law_mixed := Fun.binds (ps := ["cell", "turn"]) (fun_mk (st := topS 8) l6 c6 k6) fun _ _ _ _ _ _ us hl => match us, hl with | [_, _], _ => rfl
    g__law_mixed := PySem.W.mg_of X G a6
    a__law_draw := f7
    d__law_draw := PySem.W.fnOf "_law_draw" "_law_draw" (defArgs (topS 9)) (defBody (topS 9)) (defScope (topS 9)) .none kV7 dc7 pm7 an7 cd7 ct7
    F__law_draw := fun_mk l7 c7 k7
    b__law_draw := Fun.binds (ps := ["draws", "size"]) (fun_mk (st := topS 9) l7 c7 k7) fun _ _ _ _ _ _ us hl => match us, hl with | [_, _], _ => rfl
    g__law_draw := PySem.W.mg_of X G a7
    a__law_int := f8
    d__law_int := PySem.W.fnOf "_law_int" "_law_int" (defArgs (topS 10)) (defBody (topS 10)) (defScope (topS 10)) .none kV8 dc8 pm8 an8 cd8 ct8
    F__law_int := fun_mk l8 c8 k8
    b__law_int := Fun.binds (ps := ["value"]) (fun_mk (st := topS 10) l8 c8 k8) fun _ _ _ _ _ _ us hl => match us, hl with | [_], _ => rfl
    g__law_int := PySem.W.mg_of X G a8
    a__law_map := f9
    d__law_map := PySem.W.fnOf "_law_map" "_law_map" (defArgs (topS 11)) (defBody (topS 11)) (defScope (topS 11)) .none kV9 dc9 pm9 an9 cd9 ct9
    F__law_map := fun_mk l9 c9 k9
    b__law_map := Fun.binds (ps := ["draws", "most"]) (fun_mk (st := topS 11) l9 c9 k9) fun _ _ _ _ _ _ us hl => match us, hl with | [_, _], _ => rfl
    g__law_map := PySem.W.mg_of X G a9
    a_law := fa
    d_law := PySem.W.fnOf "law" "law" (defArgs (topS 12)) (defBody (topS 12)) (defScope (topS 12)) .none kV10 dc10 pm10 an10 cd10 ct10
    F_law := fun_mk l10 c10 k10
    b_law := Fun.binds (ps := ["script"]) (fun_mk (st := topS 12) l10 c10 k10) fun _ _ _ _ _ _ us hl => match us, hl with | [_], _ => rfl
    g_law := PySem.W.mg_of X G a10
    n_abs := PySem.W.mg_none_of X G z_abs
    n_bool := PySem.W.mg_none_of X G z_bool
    n_int := PySem.W.mg_none_of X G z_int
    n_isinstance := PySem.W.mg_none_of X G z_isinstance
    n_len := PySem.W.mg_none_of X G z_len
    n_max := PySem.W.mg_none_of X G z_max
    n_min := PySem.W.mg_none_of X G z_min
    n_range := PySem.W.mg_none_of X G z_range
    n_sum := PySem.W.mg_none_of X G z_sum
    n_tuple := PySem.W.mg_none_of X G z_tuple }
  exact ⟨T.d_law, fun s v => .of_eq rfl, fun base _ _ => ok_law T⟩
end K59
open PySem PySem.W PyProof.Rows
set_option maxHeartbeats 0 in
theorem PySem.Challenge.cw_curtaintime_k59_whole_meeting_places_holds : PySem.Challenge.rw_curtaintime_k59_whole_meeting_places.Holds := by
  w_on; o_law; k_head; (case hw => w_witness2)
  k_fill
  refine L2.walk_of (l := PySem.Challenge.rw_curtaintime_k59_whole_meeting_places) (n := 63) (k := 4) (x := "script") (CX := fun _ => L2.CX0) (sp := fun w => VL.spV _ VL.noX 1 K59.m_law) rfl (by decide) rfl ⟨rfl, by decide, by decide⟩ (fun w h Y => PySem.W.kIn_of Y) ?F (fun _ _ a ns hl _ hS => VL.sp_end hS (K59.law_math ns hl)) (fun _ _ _ _ _ h => h)
  case F =>
    intro w mg fa h KX G hmg
    refine' K59.all_mk KX G hmg ?a0 ?l0 ?c0 ?k0 ?a1 ?l1 ?c1 ?k1 ?a2 ?l2 ?c2 ?k2 ?a3 ?l3 ?c3 ?k3 ?a4 ?l4 ?c4 ?k4 ?a5 ?l5 ?c5 ?k5 ?a6 ?l6 ?c6 ?k6 ?a7 ?l7 ?c7 ?k7 ?a8 ?l8 ?c8 ?k8 ?a9 ?l9 ?c9 ?k9 ?a10 ?l10 ?c10 ?k10 ?z_abs ?z_bool ?z_int ?z_isinstance ?z_len ?z_max ?z_min ?z_range ?z_sum ?z_tuple
    (case a0 => k_is); (case l0 => k_is); (case c0 => k_is); (case k0 => k_is); (case a1 => k_is); (case l1 => k_is); (case c1 => k_is); (case k1 => k_is); (case a2 => k_is); (case l2 => k_is); (case c2 => k_is); (case k2 => k_is); (case a3 => k_is); (case l3 => k_is); (case c3 => k_is); (case k3 => k_is); (case a4 => k_is); (case l4 => k_is); (case c4 => k_is); (case k4 => k_is); (case a5 => k_is); (case l5 => k_is); (case c5 => k_is); (case k5 => k_is); (case a6 => k_is); (case l6 => k_is); (case c6 => k_is); (case k6 => k_is); (case a7 => k_is); (case l7 => k_is); (case c7 => k_is); (case k7 => k_is); (case a8 => k_is); (case l8 => k_is); (case c8 => k_is); (case k8 => k_is); (case a9 => k_is); (case l9 => k_is); (case c9 => k_is); (case k9 => k_is); (case a10 => k_is); (case l10 => k_is); (case c10 => k_is); (case k10 => k_is); (case z_abs => k_is); (case z_bool => k_is); (case z_int => k_is); (case z_isinstance => k_is); (case z_len => k_is); (case z_max => k_is); (case z_min => k_is); (case z_range => k_is); (case z_sum => k_is); (case z_tuple => k_is)

