import PyProof.Rows.All
import Wide.All
import OpenK.AllK
import Wide.FinOn
import HandS.ForMost
import HandS.ForExc
import HandS.Flow
import HandS.TupAny
import HandS.IsInst
import HandS.Style
import HandS.ExcOwn
import HandS.Lambda
import KE.GoesNew
import KE.SortData
import HandS.TupMul
import HandS.Text
import HandS.Set
import PyProof.Rows.SetFrom
import HandS.More
import HandS.Conv
import KE.SortKeyed
import HandS.SortKw
import KE.SortKeyHeap
import HandS.TryMany
import HandS.ExcField
import HandS.ExcInit
import HandS.ClsMeth
import HandS.Defaults
import KE.KStateDown
import HandS.HeadHook1
import HandS.HeadHook2
import HandS.HeadHook3
import HandS.HeadHook4
import HandS.Ends
import HandS.EndTab
import KE.KNestM
import PyProof.ExcBaseAll.ValueError
import PySem.Challenge.RW_lineseen_k15_spoilt_texts
set_option Elab.async false
set_option linter.all false
set_option maxRecDepth 100000
section
set_option maxRecDepth 100000
/-! J1: values, the store, readings given by a function. -/
namespace J
open PySem PySem.Spec PyProof.Rows L2

abbrev PV := PyData
/-- the tables of code objects of the defs that make lambdas -/
class LamT where
  L : List (Addr × Addr × Str)
/-- the tables, and the names of the code objects that they tell -/
def LamT.T [LamT] : List (Addr × Str) := LamT.L.map (·.2)
def ntO : HO → Bool
  | .tbl _ => false
  | _ => true
def ncO : HO → Bool
  | .ext _ => false
  | _ => true
theorem nc_of {o : HO} (h : ncO o = true) : ∀ c q, o ≠ LamX.CodeO c q := fun c q e => by
  subst e
  cases h
theorem tabs_upd {T : List (Addr × Str)} {H : Hp} {p : Addr} {u : HO} (t : LamX.Tabs T H) (hp : H p = none ∨ ∃ o, H p = some o ∧ ntO o = true ∧ ∀ c q, o ≠ LamX.CodeO c q) : LamX.Tabs T (upd H p u) := by
  intro r hr
  obtain ⟨ps, h1, h2, h3⟩ := t r hr
  have n1 : r.1 ≠ p := fun e => by
    rw [e] at h1
    rcases hp with q | ⟨o, q1, q2, _⟩
    · rw [q] at h1; cases h1
    · rw [q1] at h1; cases h1; cases q2
  refine ⟨ps, by rw [upd_ne n1]; exact h1, h2, fun pos cv hc => ?_⟩
  obtain ⟨c, e1, e2⟩ := h3 pos cv hc
  have n2 : c ≠ p := fun e => by
    rw [e] at e2
    rcases hp with q | ⟨o, q1, _, q3⟩
    · rw [q] at e2; cases e2
    · rw [q1] at e2; exact q3 p r.2 (Option.some.inj e2)
  exact ⟨c, e1, by rw [upd_ne n2]; exact e2⟩
theorem nt_tbl {o : HO} (h : ntO o = true) : ∀ ps, o ≠ .tbl ps := fun ps e => by
  subst e
  cases h

/-! ### values in the heap -/
mutual
inductive Rp (K : PySem.W.Frag) (H : Hp) : PV → V → Prop
  | non : Rp K H .none .non
  | bl (b : Bool) : Rp K H (.bool b) (.bl b)
  | int (i : Int) : Rp K H (.int i) (.int i)
  | str (s : Str) : PySem.PyData.strOk s = true → s.length ≤ sizeLine → Rp K H (.str s) (.str s)
  | lst {a : Addr} {xs : List PV} {vs : List V} : SqL K H a vs → Rps K H xs vs → xs.length ≤ sizeLine → Rp K H (.list xs) (.ref a)
  | tup {a : Addr} {xs : List PV} {vs : List V} : SqT K H a vs → Rps K H xs vs → xs.length ≤ sizeLine → Rp K H (.tuple xs) (.ref a)
inductive Rps (K : PySem.W.Frag) (H : Hp) : List PV → List V → Prop
  | nil : Rps K H [] []
  | cons {x : PV} {xs : List PV} {v : V} {vs : List V} : Rp K H x v → Rps K H xs vs → Rps K H (x :: xs) (v :: vs)
end

section
variable {K : PySem.W.Frag} {H H' : Hp}
theorem sqT_mono {a : Addr} {xs : List V} (e : Same H H') (h : SqT K H a xs) : SqT K H' a xs := by
  rcases h with h | h
  · rcases h with h | ⟨o, h⟩
    · exact .inl (.inl (e _ _ h))
    · exact .inl (.inr ⟨o, e _ _ h⟩)
  · exact .inr h
mutual
theorem Rp.mono (e : Same H H') : ∀ {x : PV} {v : V}, Rp K H x v → Rp K H' x v
  | _, _, .non => .non
  | _, _, .bl b => .bl b
  | _, _, .int i => .int i
  | _, _, .str s h1 h2 => .str s h1 h2
  | _, _, .lst h1 h2 h3 => .lst (e.seq h1) (Rps.mono e h2) h3
  | _, _, .tup h1 h2 h3 => .tup (sqT_mono e h1) (Rps.mono e h2) h3
theorem Rps.mono (e : Same H H') : ∀ {xs : List PV} {vs : List V}, Rps K H xs vs → Rps K H' xs vs
  | _, _, .nil => .nil
  | _, _, .cons h1 h2 => .cons (Rp.mono e h1) (Rps.mono e h2)
end
theorem Rps.length : ∀ {xs : List PV} {vs : List V}, Rps K H xs vs → xs.length = vs.length
  | _, _, .nil => rfl
  | _, _, .cons _ h => by simp [h.length]
theorem Rps.get : ∀ {xs : List PV} {vs : List V} {i : Nat} {x : PV}, Rps K H xs vs → xs[i]? = some x → ∃ v, vs[i]? = some v ∧ Rp K H x v
  | _, _, _, _, .nil, e => by simp at e
  | _, _, 0, _, .cons r _, e => by simp at e; subst e; exact ⟨_, rfl, r⟩
  | _, _, i + 1, x, .cons _ t, e => by
    obtain ⟨u, h1, h2⟩ := Rps.get (i := i) (x := x) t (by simpa using e)
    exact ⟨u, by simpa using h1, h2⟩
theorem Rps.append : ∀ {xs ys : List PV} {vs ws : List V}, Rps K H xs vs → Rps K H ys ws → Rps K H (xs ++ ys) (vs ++ ws)
  | _, _, _, _, .nil, s => s
  | _, _, _, _, .cons r t, s => .cons r (t.append s)
theorem Rps.take : ∀ {xs : List PV} {vs : List V} (n : Nat), Rps K H xs vs → Rps K H (xs.take n) (vs.take n)
  | _, _, 0, _ => .nil
  | _, _, _ + 1, .nil => .nil
  | _, _, n + 1, .cons r t => .cons r (t.take n)
theorem Rps.drop : ∀ {xs : List PV} {vs : List V} (n : Nat), Rps K H xs vs → Rps K H (xs.drop n) (vs.drop n)
  | _, _, 0, r => r
  | _, _, _ + 1, .nil => .nil
  | _, _, n + 1, .cons _ t => t.drop n
theorem Rps.set {x : PV} {v : V} (r : Rp K H x v) : ∀ {xs : List PV} {vs : List V} (i : Nat), Rps K H xs vs → Rps K H (xs.set i x) (vs.set i v)
  | _, _, _, .nil => .nil
  | _, _, 0, .cons _ t => .cons r t
  | _, _, i + 1, .cons q t => .cons q (t.set r i)
mutual
theorem Rp.dp : ∀ {x : PV} {v : V}, Rp K H x v → Dp K H v x
  | _, _, .non => .non
  | _, _, .bl b => .bl b
  | _, _, .int i => .int i
  | _, _, .str s _ _ => .str s
  | _, _, .lst h1 h2 _ => .lst h1 (Rps.dp h2)
  | _, _, .tup h1 h2 _ => .tup h1 (Rps.dp h2)
theorem Rps.dp : ∀ {xs : List PV} {vs : List V}, Rps K H xs vs → DpAll K H vs xs
  | _, _, .nil => .nil
  | _, _, .cons h1 h2 => .cons (Rp.dp h1) (Rps.dp h2)
end
mutual
theorem Rp.can : ∀ {x : PV} {v : V}, Rp K H x v → x.canLay0 = true
  | _, _, .non => by simp [PyData.canLay0]
  | _, _, .bl b => by simp [PyData.canLay0]
  | _, _, .int i => by simp [PyData.canLay0]
  | _, _, .str s h _ => by simpa [PyData.canLay0] using h
  | _, _, .lst _ h2 _ => by simpa [PyData.canLay0] using Rps.can h2
  | _, _, .tup _ h2 _ => by simpa [PyData.canLay0] using Rps.can h2
theorem Rps.can : ∀ {xs : List PV} {vs : List V}, Rps K H xs vs → PyData.canLayAll0 xs = true
  | _, _, .nil => by simp [PyData.canLayAll0]
  | _, _, .cons h1 h2 => by simp [PyData.canLayAll0, Rp.can h1, Rps.can h2]
end
end

/-! ### what names hold, what can be changed -/
inductive SV where
  | pv (v : PV)
  | ref (n : Nat)
/-- what stands in a cell of the store: a list that may grow; a value that is locked -/
inductive Cell where
  | lst (xs : List PV)
  | frz (v : PV)
abbrev Store := List Cell
structure EV where
  cls : Nat
  arg : Option (Str × PV)
inductive Res (α : Type) where
  | ok (a : α) (st : Store)
  | exc (e : EV) (st : Store)
  | bad
def Res.bind {α β : Type} : Res α → (α → Store → Res β) → Res β
  | .ok a st, k => k a st
  | .exc e st, _ => .exc e st
  | .bad, _ => .bad
abbrev Envr := List (Option SV)

section
variable (K : PySem.W.Frag)
def RpS (Hi : Hp) (μ : List Addr) : SV → V → Prop
  | .pv v, x => Rp K Hi v x
  | .ref n, x => ∃ a, μ[n]? = some a ∧ x = .ref a
inductive RpSs (Hi : Hp) (μ : List Addr) : List SV → List V → Prop
  | nil : RpSs Hi μ [] []
  | cons {x : SV} {xs : List SV} {v : V} {vs : List V} : RpS K Hi μ x v → RpSs Hi μ xs vs → RpSs Hi μ (x :: xs) (v :: vs)
def CellR (Hi H : Hp) (a : Addr) : Cell → Prop
  | .lst xs => Hi a = none ∧ ∃ vs, H a = some (.lst vs) ∧ Rps K Hi xs vs ∧ xs.length ≤ sizeLine
  | .frz v => Rp K Hi v (.ref a)
variable [LamT]
structure Sto (st : Store) (H Hi : Hp) (μ : List Addr) (φ : List (Addr × HO)) : Prop where
  sub : Same Hi H
  len : μ.length = st.length
  nd : μ.Nodup
  cell : ∀ (n : Nat) (a : Addr) (c : Cell), μ[n]? = some a → st[n]? = some c → CellR K Hi H a c
  fr : ∀ p ∈ φ, H p.1 = some p.2 ∧ Hi p.1 = none ∧ p.1 ∉ μ
  fnd : (φ.map Prod.fst).Nodup
  there : ∀ a ∈ μ, ∃ o, H a = some o ∧ ntO o = true
  tb : LamX.Tabs LamT.T H
  nt : ∀ b ps, Hi b ≠ some (.tbl ps)
  frn : ∀ p ∈ φ, ntO p.2 = true
end
structure Ext (Hi : Hp) (μ : List Addr) (Hi' : Hp) (μ' : List Addr) : Prop where
  h : Same Hi Hi'
  m : ∃ t, μ' = μ ++ t
theorem Ext.refl (Hi : Hp) (μ : List Addr) : Ext Hi μ Hi μ := ⟨Same.refl _, [], by simp⟩
theorem Ext.trans {Hi Hi1 Hi2 : Hp} {μ μ1 μ2 : List Addr} (a : Ext Hi μ Hi1 μ1) (b : Ext Hi1 μ1 Hi2 μ2) : Ext Hi μ Hi2 μ2 := by
  obtain ⟨t, h1⟩ := a.m
  obtain ⟨u, h2⟩ := b.m
  exact ⟨a.h.trans b.h, t ++ u, by rw [h2, h1, List.append_assoc]⟩
theorem Ext.of {Hi Hi1 : Hp} {μ : List Addr} (a : Same Hi Hi1) : Ext Hi μ Hi1 μ := ⟨a, [], by simp⟩
theorem Ext.get {Hi Hi' : Hp} {μ μ' : List Addr} (e : Ext Hi μ Hi' μ') {n : Nat} {a : Addr} (h : μ[n]? = some a) : μ'[n]? = some a := by
  obtain ⟨t, rfl⟩ := e.m
  obtain ⟨q, _⟩ := List.getElem?_eq_some_iff.mp h
  rw [List.getElem?_append_left q]; exact h
section
variable {K : PySem.W.Frag} {Hi Hi' H H' : Hp} {μ μ' : List Addr} {st st' : Store} {φ : List (Addr × HO)}
theorem RpS.mono (e : Ext Hi μ Hi' μ') {x : SV} {v : V} (h : RpS K Hi μ x v) : RpS K Hi' μ' x v := by
  cases x with
  | pv p => exact Rp.mono e.h h
  | ref n => obtain ⟨a, h1, h2⟩ := h; exact ⟨a, e.get h1, h2⟩
theorem RpSs.mono (e : Ext Hi μ Hi' μ') : ∀ {xs : List SV} {vs : List V}, RpSs K Hi μ xs vs → RpSs K Hi' μ' xs vs
  | _, _, .nil => .nil
  | _, _, .cons h t => .cons (h.mono e) (t.mono e)
theorem RpSs.length : ∀ {xs : List SV} {vs : List V}, RpSs K Hi μ xs vs → xs.length = vs.length
  | _, _, .nil => rfl
  | _, _, .cons _ t => by simp [t.length]
theorem RpSs.append : ∀ {xs ys : List SV} {vs ws : List V}, RpSs K Hi μ xs vs → RpSs K Hi μ ys ws → RpSs K Hi μ (xs ++ ys) (vs ++ ws)
  | _, _, _, _, .nil, s => s
  | _, _, _, _, .cons r t, s => .cons r (t.append s)
variable [LamT]
/-- a new object, read only from now on -/
theorem Sto.alloc (s : Sto K st H Hi μ φ) {p : Addr} {o : HO} (hp : H p = none) (no : ntO o = true := by rfl) : Sto K st (upd H p o) (upd Hi p o) μ φ ∧ Ext Hi μ (upd Hi p o) μ := by
  have hip : Hi p = none := by
    cases q : Hi p with
    | none => rfl
    | some o => have := s.sub _ _ q; rw [hp] at this; cases this
  have sm : Same Hi (upd Hi p o) := fun b u e => by rw [upd_ne (ne_of_none e hip)]; exact e
  have pm : ∀ a ∈ μ, a ≠ p := fun a ha e => by
    obtain ⟨o, q, _⟩ := s.there a ha
    rw [e, hp] at q; cases q
  refine ⟨⟨fun b u e => ?_, s.len, s.nd, fun n a c h1 h2 => ?_, fun q hq => ?_, s.fnd, fun a ha => by rw [upd_ne (pm a ha)]; exact s.there a ha, tabs_upd s.tb (.inl hp), fun b ps => ?_, s.frn⟩, .of sm⟩
  · by_cases hb : b = p
    · subst hb; rw [upd_same] at e ⊢; exact e
    · rw [upd_ne hb] at e ⊢; exact s.sub _ _ e
  · have na := pm a (List.mem_of_getElem? h1)
    have q := s.cell n a c h1 h2
    cases c with
    | lst xs => obtain ⟨q1, vs, q2, q3, q4⟩ := q; exact ⟨by rw [upd_ne na]; exact q1, vs, by rw [upd_ne na]; exact q2, q3.mono sm, q4⟩
    | frz v => exact Rp.mono sm q
  · obtain ⟨q1, q2, q3⟩ := s.fr q hq
    have nq : q.1 ≠ p := ne_of_none q1 hp
    exact ⟨by rw [upd_ne nq]; exact q1, by rw [upd_ne nq]; exact q2, q3⟩
  · by_cases hb : b = p
    · subst hb; rw [upd_same]; exact fun e => nt_tbl no ps (Option.some.inj e)
    · rw [upd_ne hb]; exact s.nt b ps
/-- a new object that stands in the store -/
theorem Sto.allocM (s : Sto K st H Hi μ φ) {p : Addr} {xs : List PV} {vs : List V} (hp : H p = none) (r : Rps K Hi xs vs) (hl : xs.length ≤ sizeLine) :
    Sto K (st ++ [.lst xs]) (upd H p (.lst vs)) Hi (μ ++ [p]) φ ∧ Ext Hi μ Hi (μ ++ [p]) ∧ (μ ++ [p])[st.length]? = some p := by
  have hip : Hi p = none := by
    cases q : Hi p with
    | none => rfl
    | some o => have := s.sub _ _ q; rw [hp] at this; cases this
  have pm : ∀ a ∈ μ, a ≠ p := fun a ha e => by
    obtain ⟨o, q, _⟩ := s.there a ha
    rw [e, hp] at q; cases q
  refine ⟨⟨fun b u e => ?_, by simp [s.len], ?_, fun n a c h1 h2 => ?_, fun q hq => ?_, s.fnd, fun a ha => ?_, tabs_upd s.tb (.inl hp), s.nt, s.frn⟩, ⟨Same.refl _, [p], rfl⟩, ?_⟩
  · have hb : b ≠ p := ne_of_none e hip
    rw [upd_ne hb]; exact s.sub _ _ e
  · exact List.nodup_append.mpr ⟨s.nd, by simp, fun a ha b hb => by simp at hb; subst hb; exact pm a ha⟩
  · by_cases hn : n < μ.length
    · rw [List.getElem?_append_left hn] at h1
      rw [List.getElem?_append_left (by rw [← s.len]; exact hn)] at h2
      have na := pm a (List.mem_of_getElem? h1)
      have q := s.cell n a c h1 h2
      cases c with
      | lst xs => obtain ⟨q1, vs, q2, q3, q4⟩ := q; exact ⟨q1, vs, by rw [upd_ne na]; exact q2, q3, q4⟩
      | frz v => exact q
    · have hn' : n = μ.length := by
        obtain ⟨q, _⟩ := List.getElem?_eq_some_iff.mp h1
        simp at q; omega
      subst hn'
      rw [List.getElem?_append_right (Nat.le_refl _)] at h1
      rw [s.len, List.getElem?_append_right (Nat.le_refl _)] at h2
      simp at h1 h2
      subst h1; subst h2
      exact ⟨hip, vs, upd_same, r, hl⟩
  · obtain ⟨q1, q2, q3⟩ := s.fr q hq
    have nq : q.1 ≠ p := ne_of_none q1 hp
    exact ⟨by rw [upd_ne nq]; exact q1, q2, by simp [q3, nq]⟩
  · rcases List.mem_append.mp ha with h | h
    · rw [upd_ne (pm a h)]; exact s.there a h
    · simp at h; subst h; exact ⟨_, upd_same, rfl⟩
  · rw [← s.len, List.getElem?_append_right (Nat.le_refl _)]; simp
/-- a cell is changed -/
theorem Sto.put (s : Sto K st H Hi μ φ) {n : Nat} {a : Addr} {xs ys : List PV} {vs : List V} (h1 : μ[n]? = some a) (h2 : st[n]? = some (.lst xs)) (r : Rps K Hi ys vs) (hl : ys.length ≤ sizeLine) :
    Sto K (st.set n (.lst ys)) (upd H a (.lst vs)) Hi μ φ := by
  obtain ⟨q1, ws, q2, q3, q4⟩ := s.cell n a _ h1 h2
  refine ⟨fun b u e => ?_, by simp [s.len], s.nd, fun m b c g1 g2 => ?_, fun q hq => ?_, s.fnd, fun b hb => ?_, tabs_upd s.tb (.inr ⟨_, q2, rfl, nc_of rfl⟩), s.nt, s.frn⟩
  · rw [upd_ne (ne_of_none e q1)]; exact s.sub _ _ e
  · by_cases hm : m = n
    · subst hm
      rw [h1] at g1; cases g1
      obtain ⟨hlt, _⟩ := List.getElem?_eq_some_iff.mp h2
      rw [List.getElem?_set_self hlt] at g2; cases g2
      exact ⟨q1, vs, upd_same, r, hl⟩
    · rw [List.getElem?_set_ne (Ne.symm hm)] at g2
      have nab : b ≠ a := fun e => by
        subst e
        exact hm (nd_ix s.nd g1 h1)
      have z := s.cell m b c g1 g2
      cases c with
      | lst zs => obtain ⟨z1, us, z2, z3, z4⟩ := z; exact ⟨z1, us, by rw [upd_ne nab]; exact z2, z3, z4⟩
      | frz v => exact z
  · obtain ⟨z1, z2, z3⟩ := s.fr q hq
    have nq : q.1 ≠ a := fun e => z3 (by rw [e]; exact List.mem_of_getElem? h1)
    exact ⟨by rw [upd_ne nq]; exact z1, z2, z3⟩
  · by_cases hb' : b = a
    · subst hb'; exact ⟨_, upd_same, rfl⟩
    · rw [upd_ne hb']; exact s.there b hb
/-- a cell is locked -/
theorem Sto.lock (s : Sto K st H Hi μ φ) {n : Nat} {a : Addr} {xs : List PV} (h1 : μ[n]? = some a) (h2 : st[n]? = some (.lst xs)) :
    ∃ Hi', Ext Hi μ Hi' μ ∧ Sto K (st.set n (.frz (.list xs))) H Hi' μ φ ∧ Rp K Hi' (.list xs) (.ref a) := by
  obtain ⟨q1, ws, q2, q3, q4⟩ := s.cell n a _ h1 h2
  have sm : Same Hi (upd Hi a (.lst ws)) := fun b u e => by rw [upd_ne (ne_of_none e q1)]; exact e
  have ra : Rp K (upd Hi a (.lst ws)) (.list xs) (.ref a) := .lst (.of upd_same) (q3.mono sm) q4
  refine ⟨upd Hi a (.lst ws), .of sm, ⟨fun b u e => ?_, by simp [s.len], s.nd, fun m b c g1 g2 => ?_, fun q hq => ?_, s.fnd, s.there, s.tb, fun b ps => ?_, s.frn⟩, ra⟩
  · by_cases hb : b = a
    · subst hb; rw [upd_same] at e; cases e; exact q2
    · rw [upd_ne hb] at e; exact s.sub _ _ e
  · by_cases hm : m = n
    · subst hm
      rw [h1] at g1; cases g1
      obtain ⟨hlt, _⟩ := List.getElem?_eq_some_iff.mp h2
      rw [List.getElem?_set_self hlt] at g2; cases g2
      exact ra
    · rw [List.getElem?_set_ne (Ne.symm hm)] at g2
      have nab : b ≠ a := fun e => by
        subst e
        exact hm (nd_ix s.nd g1 h1)
      have z := s.cell m b c g1 g2
      cases c with
      | lst zs => obtain ⟨z1, us, z2, z3, z4⟩ := z; exact ⟨by rw [upd_ne nab]; exact z1, us, z2, z3.mono sm, z4⟩
      | frz v => exact Rp.mono sm z
  · obtain ⟨z1, z2, z3⟩ := s.fr q hq
    have nq : q.1 ≠ a := fun e => z3 (by rw [e]; exact List.mem_of_getElem? h1)
    exact ⟨z1, by rw [upd_ne nq]; exact z2, z3⟩
  · by_cases hb : b = a
    · subst hb; rw [upd_same]; exact fun e => by cases e
    · rw [upd_ne hb]; exact s.nt b ps
/-- the last cells are given up -/
theorem Sto.cut (s : Sto K st H Hi μ φ) (n : Nat) : Sto K (st.take n) H Hi (μ.take n) φ := by
  refine ⟨s.sub, by simp [s.len], s.nd.sublist (List.take_sublist _ _), fun m a c h1 h2 => ?_, fun p hp => ?_, s.fnd, fun a ha => s.there a (List.mem_of_mem_take ha), s.tb, s.nt, s.frn⟩
  · have hm : m < n := by
      obtain ⟨q, _⟩ := List.getElem?_eq_some_iff.mp h1
      simp at q; omega
    rw [List.getElem?_take_of_lt hm] at h1 h2
    exact s.cell m a c h1 h2
  · obtain ⟨z1, z2, z3⟩ := s.fr p hp
    exact ⟨z1, z2, fun h => z3 (List.mem_of_mem_take h)⟩
/-- an object that is known but not read is framed -/
theorem Sto.frame (s : Sto K st H Hi μ φ) {p : Addr} {o : HO} (hp : H p = none) (no : ntO o = true := by rfl) : Sto K st (upd H p o) Hi μ ((p, o) :: φ) := by
  have hip : Hi p = none := by
    cases q : Hi p with
    | none => rfl
    | some o => have := s.sub _ _ q; rw [hp] at this; cases this
  have pm : ∀ a ∈ μ, a ≠ p := fun a ha e => by
    obtain ⟨o, q, _⟩ := s.there a ha
    rw [e, hp] at q; cases q
  refine ⟨fun b u e => ?_, s.len, s.nd, fun n a c h1 h2 => ?_, fun q hq => ?_, ?_, fun a ha => by rw [upd_ne (pm a ha)]; exact s.there a ha, tabs_upd s.tb (.inl hp), s.nt, fun q hq => ?_⟩
  · rw [upd_ne (ne_of_none e hip)]; exact s.sub _ _ e
  · have na := pm a (List.mem_of_getElem? h1)
    have q := s.cell n a c h1 h2
    cases c with
    | lst xs => obtain ⟨q1, vs, q2, q3, q4⟩ := q; exact ⟨q1, vs, by rw [upd_ne na]; exact q2, q3, q4⟩
    | frz v => exact q
  · rcases List.mem_cons.mp hq with e | hq
    · subst e; exact ⟨upd_same, hip, fun h => pm _ h rfl⟩
    · obtain ⟨q1, q2, q3⟩ := s.fr q hq
      have nq : q.1 ≠ p := ne_of_none q1 hp
      exact ⟨by rw [upd_ne nq]; exact q1, q2, q3⟩
  · simp only [List.map_cons, List.nodup_cons]
    refine ⟨fun h => ?_, s.fnd⟩
    obtain ⟨q, hq, e⟩ := List.mem_map.mp h
    have z := (s.fr q hq).1
    rw [e, hp] at z; cases z
  · rcases List.mem_cons.mp hq with e | hq
    · subst e; exact no
    · exact s.frn q hq
/-- .. and changed -/
theorem Sto.reframe (s : Sto K st H Hi μ φ) {p : Addr} {o u : HO} {ψ : List (Addr × HO)} (e : φ = (p, o) :: ψ) (nu : ntO u = true := by rfl) (no : ∀ c q, o ≠ LamX.CodeO c q := by exact nc_of rfl) : Sto K st (upd H p u) Hi μ ((p, u) :: ψ) := by
  subst e
  obtain ⟨p1, p2, p3⟩ := s.fr (p, o) List.mem_cons_self
  have nd := List.nodup_cons.mp (show ((p :: ψ.map Prod.fst)).Nodup from s.fnd)
  refine ⟨fun b u e => ?_, s.len, s.nd, fun n a c h1 h2 => ?_, fun q hq => ?_, s.fnd, fun a ha => ?_, tabs_upd s.tb (.inr ⟨_, p1, s.frn (p, o) List.mem_cons_self, no⟩), s.nt, fun q hq => ?_⟩
  · rw [upd_ne (ne_of_none e p2)]; exact s.sub _ _ e
  · have na : a ≠ p := fun e => p3 (by rw [← e]; exact List.mem_of_getElem? h1)
    have q := s.cell n a c h1 h2
    cases c with
    | lst xs => obtain ⟨q1, vs, q2, q3, q4⟩ := q; exact ⟨q1, vs, by rw [upd_ne na]; exact q2, q3, q4⟩
    | frz v => exact q
  · rcases List.mem_cons.mp hq with e | hq
    · subst e; exact ⟨upd_same, p2, p3⟩
    · obtain ⟨q1, q2, q3⟩ := s.fr q (List.mem_cons_of_mem _ hq)
      have nq : q.1 ≠ p := fun e => nd.1 (by rw [← e]; exact List.mem_map.mpr ⟨q, hq, rfl⟩)
      exact ⟨by rw [upd_ne nq]; exact q1, q2, q3⟩
  · have na : a ≠ p := fun e => p3 (by rw [← e]; exact ha)
    rw [upd_ne na]; exact s.there a ha
  · rcases List.mem_cons.mp hq with e | hq
    · subst e; exact nu
    · exact s.frn q (List.mem_cons_of_mem _ hq)
/-- .. and read from now on -/
theorem Sto.unframe (s : Sto K st H Hi μ φ) {p : Addr} {o : HO} {ψ : List (Addr × HO)} (e : φ = (p, o) :: ψ) : Sto K st H (upd Hi p o) μ ψ ∧ Ext Hi μ (upd Hi p o) μ := by
  subst e
  obtain ⟨p1, p2, p3⟩ := s.fr (p, o) List.mem_cons_self
  have nd := List.nodup_cons.mp (show ((p :: ψ.map Prod.fst)).Nodup from s.fnd)
  have sm : Same Hi (upd Hi p o) := fun b u e => by rw [upd_ne (ne_of_none e p2)]; exact e
  refine ⟨⟨fun b u e => ?_, s.len, s.nd, fun n a c h1 h2 => ?_, fun q hq => ?_, nd.2, s.there, s.tb, fun b ps => ?_, fun q hq => s.frn q (List.mem_cons_of_mem _ hq)⟩, .of sm⟩
  · by_cases hb : b = p
    · subst hb; rw [upd_same] at e; cases e; exact p1
    · rw [upd_ne hb] at e; exact s.sub _ _ e
  · have na : a ≠ p := fun e => p3 (by rw [← e]; exact List.mem_of_getElem? h1)
    have q := s.cell n a c h1 h2
    cases c with
    | lst xs => obtain ⟨q1, vs, q2, q3, q4⟩ := q; exact ⟨by rw [upd_ne na]; exact q1, vs, q2, q3.mono sm, q4⟩
    | frz v => exact Rp.mono sm q
  · obtain ⟨q1, q2, q3⟩ := s.fr q (List.mem_cons_of_mem _ hq)
    have nq : q.1 ≠ p := fun e => nd.1 (by rw [← e]; exact List.mem_map.mpr ⟨q, hq, rfl⟩)
    exact ⟨q1, by rw [upd_ne nq]; exact q2, q3⟩
  · by_cases hb : b = p
    · subst hb; rw [upd_same]; exact fun e => nt_tbl (s.frn (b, o) List.mem_cons_self) ps (Option.some.inj e)
    · rw [upd_ne hb]; exact s.nt b ps
/-- all but the tables stay -/
theorem Sto.extN (s : Sto K st H Hi μ φ) (e : LamX.ExtN H H') (t : LamX.Tabs LamT.T H') : Sto K st H' Hi μ φ := by
  refine ⟨fun b u q => e _ _ (s.sub _ _ q) fun ps z => s.nt b ps (by rw [q, z]), s.len, s.nd, fun n a c h1 h2 => ?_, fun p hp => ?_, s.fnd, fun a ha => ?_, t, s.nt, s.frn⟩
  · have q := s.cell n a c h1 h2
    cases c with
    | lst xs => obtain ⟨q1, vs, q2, q3, q4⟩ := q; exact ⟨q1, vs, e _ _ q2 (fun ps z => by cases z), q3, q4⟩
    | frz v => exact q
  · obtain ⟨q1, q2, q3⟩ := s.fr p hp
    exact ⟨e _ _ q1 (nt_tbl (s.frn p hp)), q2, q3⟩
  · obtain ⟨o, q1, q2⟩ := s.there a ha
    exact ⟨o, e _ _ q1 (nt_tbl q2), q2⟩
end

/-! ### readings given by a function -/
def EnvR (K : PySem.W.Frag) (Hi : Hp) (μ : List Addr) (η : Envr) (σ : L2.St) : Prop :=
  η.length = σ.length ∧ ∀ (i : Nat) (a : SV), η[i]? = some (some a) → ∃ x, σ[i]? = some (some x) ∧ RpS K Hi μ a x
theorem EnvR.mono {K : PySem.W.Frag} {Hi Hi' : Hp} {μ μ' : List Addr} {η : Envr} {σ : L2.St} (h : EnvR K Hi μ η σ) (e : Ext Hi μ Hi' μ') : EnvR K Hi' μ' η σ :=
  ⟨h.1, fun i a q => by obtain ⟨x, h1, h2⟩ := h.2 i a q; exact ⟨x, h1, h2.mono e⟩⟩
theorem EnvR.set {K : PySem.W.Frag} {Hi : Hp} {μ : List Addr} {η : Envr} {σ : L2.St} (h : EnvR K Hi μ η σ) {a : SV} {x : V} (r : RpS K Hi μ a x) (i : Nat) : EnvR K Hi μ (η.set i (some a)) (σ.set i (some x)) := by
  refine ⟨by simp [h.1], fun j b q => ?_⟩
  by_cases hj : i = j
  · subst hj
    by_cases hl : i < η.length
    · rw [List.getElem?_set_self hl] at q
      cases q
      exact ⟨x, by rw [List.getElem?_set_self (by rw [← h.1]; exact hl)], r⟩
    · rw [List.getElem?_eq_none (by simpa using hl)] at q; cases q
  · rw [List.getElem?_set_ne hj] at q
    obtain ⟨y, h1, h2⟩ := h.2 j b q
    exact ⟨y, by rw [List.getElem?_set_ne hj]; exact h1, h2⟩

/-- the law's classes of exceptions: number to class -/
abbrev XC := Nat → Option Value
def ArgR (K : PySem.W.Frag) (d : Option Addr) (Hi : Hp) : Option (Str × PV) → Prop
  | none => d = none
  | some (f, v) => ∃ dd fs x, d = some dd ∧ Hi dd = some (.xd fs) ∧ fs.lookup f = some x ∧ Rp K Hi v x
def ExcR (K : PySem.W.Frag) (xc : XC) (e : EV) (cls : Value) (d : Option Addr) (Hi : Hp) : Prop := xc e.cls = some cls ∧ ArgR K d Hi e.arg
theorem ExcR.mono {K : PySem.W.Frag} {xc : XC} {e : EV} {cls : Value} {d : Option Addr} {Hi Hi' : Hp} (h : ExcR K xc e cls d Hi) (s : Same Hi Hi') : ExcR K xc e cls d Hi' := by
  obtain ⟨h1, h2⟩ := h
  refine ⟨h1, ?_⟩
  cases q : e.arg with
  | none => rw [q] at h2; exact h2
  | some p =>
    rw [q] at h2
    obtain ⟨dd, fs, x, a1, a2, a3, a4⟩ := h2
    exact ⟨dd, fs, x, a1, s _ _ a2, a3, a4.mono s⟩

section
variable [LamT]
variable (K : PySem.W.Frag) (xc : XC) (W : Value → Option Addr → Hp → Prop)
def Post {α β : Type} (R : Hp → List Addr → α → β → Prop) (Hi : Hp) (μ : List Addr) (φ : List (Addr × HO)) (r : Res α) (Q : β → Hp → Prop) : Prop :=
  match r with
  | .ok a st => ∀ x H' Hi' μ', Ext Hi μ Hi' μ' → Sto K st H' Hi' μ' φ → R Hi' μ' a x → Q x H'
  | .exc e st => ∀ cls d H' Hi' μ', Ext Hi μ Hi' μ' → Sto K st H' Hi' μ' φ → ExcR K xc e cls d Hi' → W cls d H'
  | .bad => False
end
section
variable [LamT]
variable {K : PySem.W.Frag} {xc : XC} {W : Value → Option Addr → Hp → Prop} {α β γ δ : Type} {R : Hp → List Addr → α → β → Prop} {R2 : Hp → List Addr → γ → δ → Prop} {Hi Hi1 : Hp} {μ μ1 : List Addr} {φ : List (Addr × HO)}
theorem Post.mono {r : Res α} {Q Q' : β → Hp → Prop} (h : Post K xc W R Hi μ φ r Q) (q : ∀ x H, Q x H → Q' x H) : Post K xc W R Hi μ φ r Q' := by
  cases r with
  | ok a st => exact fun x H' Hi' μ' e s r => q _ _ (h x H' Hi' μ' e s r)
  | exc e st => exact h
  | bad => exact h
theorem Post.ext {r : Res α} {Q : β → Hp → Prop} (h : Post K xc W R Hi μ φ r Q) (e0 : Ext Hi μ Hi1 μ1) : Post K xc W R Hi1 μ1 φ r Q := by
  cases r with
  | ok a st => exact fun x H' Hi' μ' e s r => h x H' Hi' μ' (e0.trans e) s r
  | exc e st => exact fun c d H' Hi' μ' e s r => h c d H' Hi' μ' (e0.trans e) s r
  | bad => exact h
theorem Post.bind {r : Res α} {k : α → Store → Res γ} {Q : δ → Hp → Prop} (h : Post K xc W R2 Hi μ φ (r.bind k) Q) :
    Post K xc W R Hi μ φ r (fun x H1 => ∃ a st Hi1 μ1, Ext Hi μ Hi1 μ1 ∧ Sto K st H1 Hi1 μ1 φ ∧ R Hi1 μ1 a x ∧ Post K xc W R2 Hi1 μ1 φ (k a st) Q) := by
  cases r with
  | ok a st => exact fun x H' Hi' μ' e s r => ⟨a, st, Hi', μ', e, s, r, Post.ext h e⟩
  | exc e st => exact h
  | bad => exact h
end
section
variable [LamT]
/-- a reading -/
def rG (K : PySem.W.Frag) (xc : XC) (W : WX) {α β : Type} (R : Hp → List Addr → α → β → Prop) (f : Envr → Store → Res α) : L2.St → Hp → (β → Hp → Prop) → Prop := fun σ H Q =>
  ∃ η st Hi μ φ, EnvR K Hi μ η σ ∧ Sto K st H Hi μ φ ∧ Post K xc (fun c d H => W c d σ H) R Hi μ φ (f η st) Q
abbrev rE (K : PySem.W.Frag) (xc : XC) (W : WX) (f : Envr → Store → Res SV) : TE := rG K xc W (RpS K) f
abbrev rT (K : PySem.W.Frag) (xc : XC) (W : WX) (f : Envr → Store → Res Bool) : TT := rG K xc W (fun _ _ a b => a = b) f
abbrev rA (K : PySem.W.Frag) (xc : XC) (W : WX) (f : Envr → Store → Res (List SV)) : TA := rG K xc W (RpSs K) f

end
theorem PEimp {X : Cx} {e : Expr} {t u : TE} (h : PE X e t) (i : ∀ σ H Q, u σ H Q → t σ H Q) : PE X e u := ⟨fun pins s σ H Q I q => h.run pins s σ H Q I (i σ H Q q)⟩
theorem PTimp {X : Cx} {e : Expr} {t u : TT} (h : PT X e t) (i : ∀ σ H Q, u σ H Q → t σ H Q) : PT X e u := ⟨fun pins s σ H Q I q => h.run pins s σ H Q I (i σ H Q q)⟩
theorem PAimp {X : Cx} {e : List Expr} {t u : TA} (h : PA X e t) (i : ∀ σ H Q, u σ H Q → t σ H Q) : PA X e u := ⟨fun pos pins s σ H Q I q => h.run pos pins s σ H Q I (i σ H Q q)⟩
end J
end

section
set_option maxRecDepth 100000
/-! J2: the small language and its evaluator. -/
namespace J
open PySem PySem.Spec PyProof.Rows L2

/-! ### operations on values -/
def dle : Nat → PV → Bool
  | 0, .list xs => xs.isEmpty
  | 0, .tuple xs => xs.isEmpty
  | n + 1, .list xs => xs.all (dle n)
  | n + 1, .tuple xs => xs.all (dle n)
  | _, .dict _ => false
  | _, _ => true
def line : Nat := 10000000
def addV : PV → PV → Option PV
  | .int i, .int j => some (.int (i + j))
  | .str x, .str y => if x.length + y.length ≤ line then some (.str (x ++ y)) else none
  | .list xs, .list ys => if xs.length + ys.length ≤ line then some (.list (xs ++ ys)) else none
  | .tuple xs, .tuple ys => if xs.length + ys.length ≤ line then some (.tuple (xs ++ ys)) else none
  | _, _ => none
def subV : PV → PV → Option PV
  | .int i, .int j => some (.int (i - j))
  | _, _ => none
def mulOk (i j : Int) : Bool := (decide (-(2 ^ 64) < j) && decide (j < 2 ^ 64)) || (decide (-(2 ^ 64) < i) && decide (i < 2 ^ 64))
def mulV : PV → PV → Option PV
  | .int i, .int j => if mulOk i j = true then some (.int (i * j)) else none
  | .tuple xs, .int k => if (-1000 ≤ k ∧ k ≤ 1000 ∧ xs.length ≤ 1000) then some (.tuple (List.replicate k.toNat xs).flatten) else none
  | .str z, .int k => if (2 ≤ k ∧ k ≤ 1000 ∧ z.length ≤ 1000 ∧ PyData.strOk (Txt.mul z k) = true ∧ (Txt.mul z k).length ≤ line) then some (.str (Txt.mul z k)) else none
  | _, _ => none
def divOk (j : Int) : Bool := decide (0 < j) && decide (j < 1073741824)
def divV : PV → PV → Option PV
  | .int i, .int j => if divOk j = true then some (.int (i / j)) else none
  | _, _ => none
def modV : PV → PV → Option PV
  | .int i, .int j => if 0 < j then some (.int (i % j)) else none
  | _, _ => none
def powOk (i j : Int) : Bool := decide (0 ≤ j) && decide (j ≤ 1000000) && decide (i.natAbs < 2 ^ 64)
def powV : PV → PV → Option PV
  | .int i, .int j => if powOk i j = true then some (.int (i ^ j.toNat)) else none
  | _, _ => none
def binV : Operator → PV → PV → Option PV
  | .Add => addV
  | .Sub => subV
  | .Mult => mulV
  | .FloorDiv => divV
  | .Mod => modV
  | .Pow => powV
  | _ => fun _ _ => none
def negV : PV → Option PV
  | .int i => some (.int (-i))
  | _ => none
def eqP (a b : PV) : Option Bool := if (dle 8 a || dle 8 b) = true then some (PyData.eqv a b) else none
def ltP : PV → PV → Option Bool
  | .int i, .int j => some (decide (i < j))
  | .str i, .str j => some (decide (i.cps.toList < j.cps.toList))
  | _, _ => none
def leP : PV → PV → Option Bool
  | .int i, .int j => some (decide (i ≤ j))
  | .str i, .str j => some (!decide (j.cps.toList < i.cps.toList))
  | _, _ => none
/-- a sign in a text -/
def signIn (x : PV) (z : Str) : Option Bool := match x with
  | .str t => match t.cps.toList with
    | [c] => some (decide (c ∈ z.cps.toList))
    | _ => none
  | _ => none
def inP (x : PV) : PV → Option Bool
  | .list xs => if dle 8 x = true then some (xs.any fun y => PyData.eqv y x) else none
  | .tuple xs => if dle 8 x = true then some (xs.any fun y => PyData.eqv y x) else none
  | .str z => signIn x z
  | _ => none
def cmpV : CmpOp → PV → PV → Option Bool
  | .Eq, a, b => eqP a b
  | .NotEq, a, b => (eqP a b).map (!·)
  | .Lt, a, b => ltP a b
  | .Gt, a, b => ltP b a
  | .LtE, a, b => leP a b
  | .GtE, a, b => leP b a
  | .In, a, b => inP a b
  | .NotIn, a, b => (inP a b).map (!·)
  | _, _, _ => none
def isNon : PV → Bool
  | .none => true
  | _ => false
def truP : PV → Option Bool
  | .none => some false
  | .bool b => some b
  | .int i => some (i != 0)
  | .str y => some ((y.length : Int) != 0)
  | .list xs => some (!xs.isEmpty)
  | .tuple xs => some (!xs.isEmpty)
  | .dict _ => none
def idxV : PV → PV → Option PV
  | .list xs, .int i => atI xs i
  | .tuple xs, .int i => atI xs i
  | .str z, .int i => (atI z.cps.toList i).map fun c => .str ⟨#[c]⟩
  | _, _ => none
def cutL {α : Type} (xs : List α) (lo hi : Option Int) : List α := (xs.drop (HT.sIx xs.length 0 lo)).take (HT.sIx xs.length xs.length hi - HT.sIx xs.length 0 lo)
def sliV : PV → Option Int → Option Int → Option PV
  | .list xs, lo, hi => some (.list (cutL xs lo hi))
  | .tuple xs, lo, hi => some (.tuple (cutL xs lo hi))
  | .str z, lo, hi => some (.str (cutS z lo hi))
  | _, _, _ => none
def tyName : PV → String
  | .none => "NoneType"
  | .bool _ => "bool"
  | .int _ => "int"
  | .str _ => "str"
  | .list _ => "list"
  | .tuple _ => "tuple"
  | .dict _ => "dict"
def isiV (x : PV) (T : String) : Bool := tyName x == T || (tyName x == "bool" && T == "int")
/-- the built-in functions of one argument -/
inductive BI where
  | len | int | tup | lst | all | any | sum
  deriving DecidableEq
def boolsOf : List PV → Option (List Bool)
  | [] => some []
  | .bool b :: r => (boolsOf r).map (b :: ·)
  | _ => none
def intsOf : List PV → Option (List Int)
  | [] => some []
  | .int b :: r => (intsOf r).map (b :: ·)
  | _ => none
def signs (z : Str) : List PV := z.cps.toList.map fun c => .str ⟨#[c]⟩
def itemsV : PV → Option (List PV)
  | .list xs => some xs
  | .tuple xs => some xs
  | .str z => some (z.cps.toList.map fun c => .str ⟨#[c]⟩)
  | _ => none
def biV : BI → PV → Option PV
  | .len, .str z => some (.int z.length)
  | .len, .list xs => some (.int xs.length)
  | .len, .tuple xs => some (.int xs.length)
  | .int, .int i => some (.int i)
  | .int, .bool b => some (.int (if b then 1 else 0))
  | .tup, .list xs => some (.tuple xs)
  | .tup, .tuple xs => some (.tuple xs)
  | .lst, .list xs => some (.list xs)
  | .lst, .tuple xs => some (.list xs)
  | .all, .list xs => (boolsOf xs).map fun bs => .bool (bs.all id)
  | .any, .list xs => (boolsOf xs).map fun bs => .bool (bs.any id)
  | .sum, .list xs => (intsOf xs).map fun ns => .int ns.sum
  | _, _ => none
def constV : Const → Option PV
  | .none => some .none
  | .bool b => some (.bool b)
  | .int i => some (.int i)
  | .str s => some (.str s)
  | _ => none

def constOk : Const → Bool
  | .str s => PyData.strOk s && decide (s.length ≤ line)
  | _ => true

/-! ### the language -/
/-- what a clause gives back: a word, or a field of the exception -/
inductive HB where
  | word (w : Str)
  | fld (f : Str)
  deriving DecidableEq
inductive Tg where
  | nm (i : Nat)
  | tp (is : List Nat)
mutual
inductive IE where
  | slot (i : Nat)
  | con (c : Const)
  | glob (j : Nat)
  | neg (a : IE)
  | tup (es : IEs)
  | lst (es : IEs)
  | mlst (es : IEs)
  | frz (a : IE)
  | bin (op : Operator) (a b : IE)
  | cmp (op : CmpOp) (a b : IE)
  | chain (op op' : CmpOp) (a b c : IE)
  | isN (neg : Bool) (a : IE)
  | andV (a b : IE)
  | orV (a b : IE)
  | one (a : IE)
  | not (a : IE)
  | ife (c a b : IE)
  | call (j : Nat) (es : IEs)
  | bi (f : BI) (a : IE)
  | isi (a : IE) (T : String)
  | idx (a b : IE)
  | idxR (a b : IE)
  | lenR (a : IE)
  | slice (a : IE) (lo hi : IO)
  | comp (elt : IE) (tg : Tg) (it : II) (cond : IO) (own : List Nat)
  | gget (j : Nat) (a : IE)
  | srt (a : IE)
  | dget (ks : List (Str × Int)) (a : IE) (d : Int)
  | join (a b : IE)
  | split (a b : IE)
  | srtD (a : IE)
  | lrng (a : IE)
  | mcpy (a : IE)
  | srtK (j : Nat) (a : IE)
  | srtL (a : IE)
  | look (i : Nat) (a : IE)
  | mcat (a b : IE)
  | comp2 (elt : IE) (tg : Tg) (it : II) (tg1 : Tg) (it1 : II) (own : List Nat)
  | lamw (top : Nat) (hs : List (Nat × HB)) (fine : Option Str) (e : IE)
  | never
inductive IEs where
  | nil
  | cons (e : IE) (es : IEs)
inductive IO where
  | none
  | some (e : IE)
inductive II where
  | val (e : IE)
  | rng (e : IE)
  | rng2 (a b : IE)
  | enum (e : IE)
  | zip (a b : IE)
end
mutual
inductive IS where
  | set (i : Nat) (e : IE)
  | setT (tg : Tg) (e : IE)
  | par (is : List Nat) (es : IEs)
  | aug (i : Nat) (e : IE)
  | sto (a i e : IE)
  | app (a e : IE)
  | ins (a i e : IE)
  | never
  | drop (e : IE)
  | ret (e : IE)
  | retN
  | ife (c : IE) (a b : ISs)
  | for_ (tg : Tg) (it : II) (body : ISs)
  | while_ (c : IE) (body : ISs)
  | raise (k : Nat) (msg : Str)
  | raisx (k : Nat) (f : Str) (e : IE)
  | brk
  | cnt
  | pass
inductive ISs where
  | nil
  | cons (s : IS) (ss : ISs)
end

/-! ### evaluation -/
def liftV (r : Option PV) (st : Store) : Res SV := match r with
  | some v => .ok (.pv v) st
  | none => .bad
def liftB (r : Option Bool) (st : Store) : Res SV := match r with
  | some b => .ok (.pv (.bool b)) st
  | none => .bad
def asPV (x : SV) (st : Store) : Res PV := match x with
  | .pv v => .ok v st
  | .ref _ => .bad
def asPVs : List SV → Option (List PV)
  | [] => some []
  | .pv v :: r => (asPVs r).map (v :: ·)
  | .ref _ :: _ => none
def truS (x : SV) (st : Store) : Res Bool := match x with
  | .pv v => match truP v with
    | some b => .ok b st
    | none => .bad
  | .ref _ => .bad
def setAll (η : Envr) : List Nat → List PV → Option Envr
  | [], [] => some η
  | i :: is, x :: xs => setAll (η.set i (some (.pv x))) is xs
  | _, _ => none
def asgT (tg : Tg) (x : SV) (η : Envr) : Option Envr := match tg, x with
  | .nm i, x => some (η.set i (some x))
  | .tp is, .pv (.tuple xs) => setAll η is xs
  | _, _ => none
def wipeJ (η : Envr) : List Nat → Envr
  | [] => η
  | v :: vs => (wipeJ η vs).set v none
/-- the turns of a comprehension: the body may leave an item out -/
def compJ (body : PV → Store → Res (Option PV)) : List PV → List PV → Store → Res (List PV)
  | [], acc, st => .ok acc st
  | x :: xs, acc, st => match body x st with
    | .ok (some y) st' => compJ body xs (acc ++ [y]) st'
    | .ok none st' => compJ body xs acc st'
    | _ => .bad
def intP : PV → Option Int
  | .int i => some i
  | _ => none
def rngOk (j : Int) : Bool := decide (-4000000 ≤ j) && decide (j ≤ 4000000)
def rngL (lo hi : Int) : List PV := (List.range (hi - lo).toNat).map fun (k : Nat) => PyData.int (lo + (k : Int))
def enumL (xs : List PV) : List PV := xs.zipIdx.map fun p => .tuple [.int (p.2 : Nat), p.1]
def zipL (xs ys : List PV) : List PV := (xs.zip ys).map fun p => .tuple [p.1, p.2]
def opt {α : Type} (r : Option α) (st : Store) : Res α := match r with
  | some a => .ok a st
  | none => .bad

abbrev Calls := Nat → List SV → Store → Res SV
structure Glb where
  glob : List PV
  dict : List (List (Str × PV))
/-! ### the pieces -/
abbrev FE := Envr → Store → Res SV
def slotF (i : Nat) : FE := fun η st => match η[i]? with
  | some (some x) => .ok x st
  | _ => .bad
def conF (c : Const) : FE := fun _ st => liftV (constV c) st
def globF (g : Glb) (j : Nat) : FE := fun _ st => liftV (g.glob[j]?) st
def negF (fa : FE) : FE := fun η st => (fa η st).bind fun x st => (asPV x st).bind fun v st => liftV (negV v) st
def binF (op : Operator) (fa fb : FE) : FE := fun η st => (fa η st).bind fun x st => (fb η st).bind fun y st => (asPV x st).bind fun v st => (asPV y st).bind fun w st => liftV (binV op v w) st
def cmpF (op : CmpOp) (fa fb : FE) : FE := fun η st => (fa η st).bind fun x st => (fb η st).bind fun y st => (asPV x st).bind fun v st => (asPV y st).bind fun w st => liftB (cmpV op v w) st
def nilF : Envr → Store → Res (List SV) := fun _ st => .ok [] st
def consF (fa : FE) (fs : Envr → Store → Res (List SV)) : Envr → Store → Res (List SV) := fun η st => (fa η st).bind fun x st => (fs η st).bind fun xs st => .ok (x :: xs) st
def callF (F : List SV → Store → Res SV) (fs : Envr → Store → Res (List SV)) : FE := fun η st => (fs η st).bind fun xs st => F xs st
def noneF : Envr → Store → Res (Option Int) := fun _ st => .ok none st
def tst (f : Envr → Store → Res SV) : Envr → Store → Res Bool := fun η st => (f η st).bind truS

/-- a op b op' c -/
def chainF (op op' : CmpOp) (fa fb fc : Envr → Store → Res SV) : Envr → Store → Res SV := fun η st =>
  (fa η st).bind fun x st => (fb η st).bind fun y st => (asPV x st).bind fun v st => (asPV y st).bind fun w st => match cmpV op v w with
    | some true => (fc η st).bind fun z st => (asPV z st).bind fun u st => liftB (cmpV op' w u) st
    | some false => .ok (.pv (.bool false)) st
    | none => .bad
def isNF (neg : Bool) (fa : Envr → Store → Res SV) : Envr → Store → Res SV := fun η st => (fa η st).bind fun x st => (asPV x st).bind fun v st => .ok (.pv (.bool (if neg then !isNon v else isNon v))) st
def andF (fa fb : Envr → Store → Res SV) : Envr → Store → Res SV := fun η st => (fa η st).bind fun x st => (truS x st).bind fun c st => if c = true then fb η st else .ok x st
def orF (fa fb : Envr → Store → Res SV) : Envr → Store → Res SV := fun η st => (fa η st).bind fun x st => (truS x st).bind fun c st => if c = true then .ok x st else fb η st
def notF (fa : Envr → Store → Res SV) : Envr → Store → Res SV := fun η st => (fa η st).bind fun x st => (truS x st).bind fun c st => .ok (.pv (.bool (!c))) st
def ifF (fc fa fb : Envr → Store → Res SV) : Envr → Store → Res SV := fun η st => (fc η st).bind fun x st => (truS x st).bind fun c st => if c = true then fa η st else fb η st
def tupF (fs : Envr → Store → Res (List SV)) : Envr → Store → Res SV := fun η st => (fs η st).bind fun xs st => match asPVs xs with
    | some vs => if vs.length ≤ line then .ok (.pv (.tuple vs)) st else .bad
    | none => .bad
def lstF (fs : Envr → Store → Res (List SV)) : Envr → Store → Res SV := fun η st => (fs η st).bind fun xs st => match asPVs xs with
    | some vs => if vs.length ≤ line then .ok (.pv (.list vs)) st else .bad
    | none => .bad
def mlstF (fs : Envr → Store → Res (List SV)) : Envr → Store → Res SV := fun η st => (fs η st).bind fun xs st => match asPVs xs with
    | some vs => if vs.length ≤ line then .ok (.ref st.length) (st ++ [.lst vs]) else .bad
    | none => .bad
def frzF (fa : Envr → Store → Res SV) : Envr → Store → Res SV := fun η st => (fa η st).bind fun x st => match x with
    | .ref n => match st[n]? with
      | some (.lst xs) => .ok (.pv (.list xs)) (st.set n (.frz (.list xs)))
      | some (.frz v) => .ok (.pv v) st
      | none => .bad
    | .pv v => .ok (.pv v) st
def idxF (fa fb : Envr → Store → Res SV) : Envr → Store → Res SV := fun η st => (fa η st).bind fun x st => (fb η st).bind fun y st => (asPV x st).bind fun v st => (asPV y st).bind fun w st => liftV (idxV v w) st
def idxRF (fa fb : Envr → Store → Res SV) : Envr → Store → Res SV := fun η st => (fa η st).bind fun x st => (fb η st).bind fun y st => (asPV y st).bind fun w st => match x with
    | .ref n => match st[n]? with
      | some (.lst xs) => liftV (idxV (.list xs) w) st
      | _ => .bad
    | .pv _ => .bad
def sliF (fa : Envr → Store → Res SV) (fl fh : Envr → Store → Res (Option Int)) : Envr → Store → Res SV := fun η st => (fa η st).bind fun x st => (asPV x st).bind fun v st => (fl η st).bind fun l st => (fh η st).bind fun h st => liftV (sliV v l h) st
def partF (fa : Envr → Store → Res SV) : Envr → Store → Res (Option Int) := fun η st => (fa η st).bind fun x st => (asPV x st).bind fun v st => match v with
    | .int i => .ok (some i) st
    | _ => .bad
def biF (f : BI) (fa : Envr → Store → Res SV) : Envr → Store → Res SV := fun η st => (fa η st).bind fun x st => (asPV x st).bind fun v st => liftV (biV f v) st
/-- len of a list that may still grow -/
def lenRF (fa : Envr → Store → Res SV) : Envr → Store → Res SV := fun η st => (fa η st).bind fun x st => match x with
    | .ref n => match st[n]? with
      | some (.lst xs) => .ok (.pv (.int xs.length)) st
      | _ => .bad
    | .pv _ => .bad
def isiF (fa : Envr → Store → Res SV) (T : String) : Envr → Store → Res SV := fun η st => (fa η st).bind fun x st => (asPV x st).bind fun v st => .ok (.pv (.bool (isiV v T))) st
def compB (elt : FE) (cond : Envr → Store → Res Bool) (tg : Tg) (own : List Nat) (η : Envr) (x : PV) (st : Store) : Res (Option PV) := match asgT tg (.pv x) (wipeJ η own) with
  | none => .bad
  | some η2 => (cond η2 st).bind fun b st => if b = true then (elt η2 st).bind fun y st => (asPV y st).bind fun v st => .ok (some v) st else .ok none st
def compF (elt : FE) (tg : Tg) (it : Envr → Store → Res (List PV)) (cond : Envr → Store → Res Bool) (own : List Nat) : FE := fun η st => (it η st).bind fun items st =>
  (compJ (compB elt cond tg own η) items [] st).bind fun ys st => if ys.length ≤ line then .ok (.pv (.list ys)) st else .bad
def ggetF (g : Glb) (j : Nat) (fa : FE) : FE := fun η st => (fa η st).bind fun x st => (asPV x st).bind fun v st => match v, g.dict[j]? with
  | .str k, some d => .ok (.pv ((d.lookup k).getD .none)) st
  | _, _ => .bad
def trueF : Envr → Store → Res Bool := fun _ st => .ok true st
abbrev FI := Envr → Store → Res (List PV)
def valF (fa : FE) : FI := fun η st => (fa η st).bind fun x st => (asPV x st).bind fun v st => opt (itemsV v) st
def rngF (fa : FE) : FI := fun η st => (fa η st).bind fun x st => (asPV x st).bind fun v st => match v with
  | .int j => if rngOk j = true then .ok (rngL 0 j) st else .bad
  | _ => .bad
def rng2F (fa fb : FE) : FI := fun η st => (fa η st).bind fun x st => (fb η st).bind fun y st => (asPV x st).bind fun v st => (asPV y st).bind fun w st => match v, w with
  | .int i, .int j => if rngOk i = true ∧ rngOk j = true then .ok (rngL i j) st else .bad
  | _, _ => .bad
def enumF (fa : FE) : FI := fun η st => (fa η st).bind fun x st => (asPV x st).bind fun v st => match v with
  | .list xs => .ok (enumL xs) st
  | .tuple xs => .ok (enumL xs) st
  | _ => .bad
def zipF (fa fb : FE) : FI := fun η st => (fa η st).bind fun x st => (fb η st).bind fun y st => (asPV x st).bind fun v st => (asPV y st).bind fun w st => match v, w with
  | .str z, .tuple ys => .ok (zipL (signs z) ys) st
  | _, _ => .bad
/-- the texts that stand in a list, each once -/
def onceL : List Str → List Str → List Str
  | [], acc => acc
  | x :: xs, acc => onceL xs (if x ∈ acc then acc else x :: acc)
def leS (a b : Str) : Bool := decide (a.cps.toList ≤ b.cps.toList)
def sortS (xs : List Str) : List Str := (onceL xs []).mergeSort leS
def strsOf : List PV → Option (List Str)
  | [] => some []
  | .str s :: r => (strsOf r).map (s :: ·)
  | _ => none
def srtV : PV → Option PV
  | .list xs => match strsOf xs with
    | some ss => if ss.length ≤ 1000 then some (.list ((sortS ss).map .str)) else none
    | none => none
  | _ => none
def srtF (fa : FE) : FE := fun η st => (fa η st).bind fun x st => (asPV x st).bind fun v st => liftV (srtV v) st
/-- a value that is not reached -/
def neverF : FE := fun _ _ => .bad
def dgetF (ks : List (Str × Int)) (d : Int) (fa : FE) : FE := fun η st => (fa η st).bind fun x st => (asPV x st).bind fun v st => match v with
  | .str z => .ok (.pv (.int ((ks.lookup z).getD d))) st
  | _ => .bad
def fitS (z : Str) : Bool := PyData.strOk z && decide (z.length ≤ line)
def joinL (a : Str) (xs : List PV) : Option PV := match strsOf xs with
  | some ss => if ((ss.map (·.length)).sum + ss.length * a.length ≤ 1000000 ∧ fitS (Txt.join a ss) = true) then some (.str (Txt.join a ss)) else none
  | none => none
def joinV (a : Str) : PV → Option PV
  | .list xs => joinL a xs
  | .tuple xs => joinL a xs
  | _ => none
def splitV (a : Str) : PV → Option PV
  | .str b => if ((b.length == 0) = false ∧ a.length ≤ 1000000 ∧ (Txt.split a b).all fitS = true ∧ (Txt.split a b).length ≤ line) then some (.list ((Txt.split a b).map .str)) else none
  | _ => none
def txtF (f : Str → PV → Option PV) (fa fb : FE) : FE := fun η st => (fa η st).bind fun x st => match x with
  | .pv (.str z) => (fb η st).bind fun y st => (asPV y st).bind fun w st => liftV (f z w) st
  | _ => .bad
/-- data of one form, that < takes -/
def alikeB (xs : List PV) : Bool := xs.all fun x => xs.all fun y => PySem.W.alike x y
def sortB (xs : List PV) : Bool := (xs.all fun x => match x with | .tuple (_ :: _) => true | _ => false) || xs.all fun x => match x with | .tuple _ => false | .none => false | _ => true
def oneE : List PV → Bool
  | [.tuple []] => true
  | _ => false
def srtDV : PV → Option PV
  | .list xs => if (xs.length ≤ line ∧ alikeB xs = true ∧ sortB xs = true ∧ xs.all (dle 8) = true) then some (.list (xs.mergeSort (PySem.W.dataLe false id))) else if oneE xs = true then some (.list xs) else none
  | _ => none
def srtDF (fa : FE) : FE := fun η st => (fa η st).bind fun x st => (asPV x st).bind fun v st => liftV (srtDV v) st
def lrngV : PV → Option PV
  | .int j => if rngOk j = true then some (.list (rngL 0 j)) else none
  | _ => none
def lrngF (fa : FE) : FE := fun η st => (fa η st).bind fun x st => (asPV x st).bind fun v st => liftV (lrngV v) st
/-- a new list that may change: two others one behind the other -/
def mcatF (fa fb : FE) : FE := fun η st => (fa η st).bind fun x st => (fb η st).bind fun y st => (asPV x st).bind fun v st => (asPV y st).bind fun w st => match v, w with
  | .list xs, .list ys => if xs.length + ys.length ≤ line then .ok (.ref st.length) (st ++ [.lst (xs ++ ys)]) else .bad
  | _, _ => .bad
def tgIxs : Tg → List Nat
  | .nm i => [i]
  | .tp is => is
/-- a comprehension with two clauses -/
def comp2B (elt : FE) (tg1 : Tg) (it1 : FI) (η2 : Envr) (acc : List PV) (st : Store) : Res (List PV) := (it1 η2 st).bind fun items st => if acc.length + items.length ≤ line then compJ (compB elt trueF tg1 (tgIxs tg1) η2) items acc st else .bad
def comp2C (elt : FE) (tg : Tg) (tg1 : Tg) (it1 : FI) (own : List Nat) (η : Envr) (x : PV) (acc : List PV) (st : Store) : Res (List PV) := match asgT tg (.pv x) (wipeJ η own) with
  | none => .bad
  | some η2 => comp2B elt tg1 it1 η2 acc st
def comp2J (f : PV → List PV → Store → Res (List PV)) : List PV → List PV → Store → Res (List PV)
  | [], acc, st => .ok acc st
  | x :: xs, acc, st => match f x acc st with
    | .ok acc' st' => comp2J f xs acc' st'
    | _ => .bad
def comp2F (elt : FE) (tg : Tg) (it : FI) (tg1 : Tg) (it1 : FI) (own : List Nat) : FE := fun η st => (it η st).bind fun items st =>
  (comp2J (comp2C elt tg tg1 it1 own η) items [] st).bind fun ys st => if ys.length ≤ line then .ok (.pv (.list ys)) st else .bad
/-- the keys of items, by a def -/
def keysJ (F : List SV → Store → Res SV) : List PV → Store → Res (List PV)
  | [], st => .ok [] st
  | x :: xs, st => match F [.pv x] st with
    | .ok (.pv k) st => (keysJ F xs st).bind fun ks st => .ok (k :: ks) st
    | _ => .bad
def byKeys (xs ks : List PV) : List PV := ((xs.zip ks).mergeSort fun p q => PySem.W.dataLe false id p.2 q.2).map (·.1)
def flatP : PV → Bool
  | .none => true
  | .bool _ => true
  | .int _ => true
  | _ => false
def unrefJ (η : Envr) : Envr := η.map fun o => match o with | some (.pv v) => some (.pv v) | _ => none
def lookF (i : Nat) (fa : FE) : FE := fun η st => match η[i]? with
  | some (some (.ref n)) => (match st[n]? with
    | some (.lst xs) => (match fa ((unrefJ η).set i (some (.pv (.list xs)))) [] with
      | .ok (.pv v) _ => if flatP v = true then .ok (.pv v) st else .bad
      | _ => .bad)
    | _ => .bad)
  | _ => .bad
def isTupP : PV → Bool
  | .tuple _ => true
  | _ => false
def lenP : PV → PV
  | .tuple ys => .int (ys.length : Int)
  | _ => .none
def srtLV : PV → Option PV
  | .list xs => if (xs.length ≤ line ∧ xs.all isTupP = true) then some (.list (byKeys xs (xs.map lenP))) else none
  | _ => none
def srtLF (fa : FE) : FE := fun η st => (fa η st).bind fun x st => (asPV x st).bind fun v st => liftV (srtLV v) st
def finK (xs ks : List PV) : Store → Res SV := fun st => if (xs.length ≤ line ∧ alikeB ks = true ∧ sortB ks = true ∧ ks.all (dle 8) = true) then .ok (.pv (.list (byKeys xs ks))) st else .bad
def srtKF (F : List SV → Store → Res SV) (fa : FE) : FE := fun η st => (fa η st).bind fun x st => (asPV x st).bind fun v st => match v with
  | .list xs => (keysJ F xs st).bind fun ks st => finK xs ks st
  | _ => .bad
/-- a new list that may change, of what another holds -/
def mcpyF (fa : FE) : FE := fun η st => (fa η st).bind fun x st => (asPV x st).bind fun v st => match v with
  | .list xs => .ok (.ref st.length) (st ++ [.lst xs])
  | .tuple xs => .ok (.ref st.length) (st ++ [.lst xs])
  | _ => .bad
/-- what a call that is handed on as a lambda tells: its value, or a word; or what its exception's first clause says -/
def wordJ (top : Nat) (hs : List (Nat × HB)) (k : Nat) : Option HB := (hs.find? fun p => p.1 == k || p.1 == top).map (·.2)
def hbV : HB → Option (Str × PV) → Option PV
  | .word w, _ => some (.str w)
  | .fld f, some (f', v) => if f' = f then some v else none
  | .fld _, none => none
def excJ (top : Nat) (hs : List (Nat × HB)) (e : EV) : Option PV := match wordJ top hs e.cls with
  | some b => hbV b e.arg
  | none => none
def fineJ (fine : Option Str) (x : SV) : SV := match fine with
  | some w => .pv (.str w)
  | none => x
def lamwF (top : Nat) (hs : List (Nat × HB)) (fine : Option Str) (fe : FE) : FE := fun η st => match fe η st with
  | .ok x st' => .ok (fineJ fine x) st'
  | .exc e st' => liftV (excJ top hs e) st'
  | .bad => .bad
section
variable (cs : Calls) (g : Glb)
mutual
def ev : IE → FE
  | .slot i => slotF i
  | .con c => conF c
  | .glob j => globF g j
  | .neg a => negF (ev a)
  | .tup es => tupF (evs es)
  | .lst es => lstF (evs es)
  | .mlst es => mlstF (evs es)
  | .frz a => frzF (ev a)
  | .bin op a b => binF op (ev a) (ev b)
  | .cmp op a b => cmpF op (ev a) (ev b)
  | .chain op op' a b c => chainF op op' (ev a) (ev b) (ev c)
  | .isN neg a => isNF neg (ev a)
  | .andV a b => andF (ev a) (ev b)
  | .orV a b => orF (ev a) (ev b)
  | .one a => ev a
  | .not a => notF (ev a)
  | .ife c a b => ifF (ev c) (ev a) (ev b)
  | .call j es => callF (cs j) (evs es)
  | .bi f a => biF f (ev a)
  | .isi a T => isiF (ev a) T
  | .idx a b => idxF (ev a) (ev b)
  | .idxR a b => idxRF (ev a) (ev b)
  | .lenR a => lenRF (ev a)
  | .slice a lo hi => sliF (ev a) (evO lo) (evO hi)
  | .comp elt tg it cond own => compF (ev elt) tg (evI it) (evC cond) own
  | .gget j a => ggetF g j (ev a)
  | .srt a => srtF (ev a)
  | .dget ks a d => dgetF ks d (ev a)
  | .join a b => txtF joinV (ev a) (ev b)
  | .split a b => txtF splitV (ev a) (ev b)
  | .srtD a => srtDF (ev a)
  | .lrng a => lrngF (ev a)
  | .mcpy a => mcpyF (ev a)
  | .srtK j a => srtKF (cs j) (ev a)
  | .srtL a => srtLF (ev a)
  | .look i a => lookF i (ev a)
  | .mcat a b => mcatF (ev a) (ev b)
  | .comp2 elt tg it tg1 it1 own => comp2F (ev elt) tg (evI it) tg1 (evI it1) own
  | .lamw top hs fine e => lamwF top hs fine (ev e)
  | .never => neverF
def evs : IEs → Envr → Store → Res (List SV)
  | .nil => nilF
  | .cons e es => consF (ev e) (evs es)
def evO : IO → Envr → Store → Res (Option Int)
  | .none => noneF
  | .some e => partF (ev e)
def evC : IO → Envr → Store → Res Bool
  | .none => trueF
  | .some e => tst (ev e)
def evI : II → FI
  | .val e => valF (ev e)
  | .rng e => rngF (ev e)
  | .rng2 a b => rng2F (ev a) (ev b)
  | .enum e => enumF (ev e)
  | .zip a b => zipF (ev a) (ev b)
end

/-- how a statement ends -/
inductive RS where
  | next (η : Envr) (st : Store)
  | ret (v : SV) (st : Store)
  | brk (η : Envr) (st : Store)
  | cnt (η : Envr) (st : Store)
  | exc (e : EV) (η : Envr) (st : Store)
  | bad
def Res.thn {α : Type} (η : Envr) : Res α → (α → Store → RS) → RS
  | .ok a st, k => k a st
  | .exc e st, _ => .exc e η st
  | .bad, _ => .bad
def RS.seq : RS → (Envr → Store → RS) → RS
  | .next η st, k => k η st
  | r, _ => r
def loopJ (body : PV → Envr → Store → RS) : List PV → Envr → Store → RS
  | [], η, st => .next η st
  | x :: xs, η, st => match body x η st with
    | .next η' st' => loopJ body xs η' st'
    | .cnt η' st' => loopJ body xs η' st'
    | .brk η' st' => .next η' st'
    | r => r
def whileJ (c : Envr → Store → Res Bool) (body : Envr → Store → RS) : Nat → Envr → Store → RS
  | 0, _, _ => .bad
  | n + 1, η, st => (c η st).thn η fun b st => if b = true then (match body η st with
    | .next η' st' => whileJ c body n η' st'
    | .cnt η' st' => whileJ c body n η' st'
    | .brk η' st' => .next η' st'
    | r => r) else .next η st
def setAllS (η : Envr) : List Nat → List SV → Option Envr
  | [], [] => some η
  | i :: is, x :: xs => setAllS (η.set i (some x)) is xs
  | _, _ => none
/-! ### the pieces of statements -/
abbrev FS := Envr → Store → RS
def setS (i : Nat) (fe : FE) : FS := fun η st => (fe η st).thn η fun x st => .next (η.set i (some x)) st
def setTS (tg : Tg) (fe : FE) : FS := fun η st => (fe η st).thn η fun x st => match asgT tg x η with
  | some η' => .next η' st
  | none => .bad
def parS (is : List Nat) (fs : Envr → Store → Res (List SV)) : FS := fun η st => (fs η st).thn η fun xs st => match setAllS η is xs with
  | some η' => .next η' st
  | none => .bad
def augS (i : Nat) (fe : FE) : FS := fun η st => match η[i]? with
  | some (some (.pv (.int a))) => (fe η st).thn η fun y st => match y with
    | .pv (.int b) => .next (η.set i (some (.pv (.int (a + b))))) st
    | _ => .bad
  | _ => .bad
def stoS (fa fi fe : FE) : FS := fun η st => (fe η st).thn η fun z st => (fa η st).thn η fun x st => (fi η st).thn η fun y st => match x, y, z with
  | .ref n, .pv (.int k), .pv v => match st[n]? with
    | some (.lst xs) => match ixN xs.length k with
      | some j => .next η (st.set n (.lst (xs.set j v)))
      | none => .bad
    | _ => .bad
  | _, _, _ => .bad
def appS (fa fe : FE) : FS := fun η st => (fa η st).thn η fun x st => match x with
  | .ref n => match st[n]? with
    | some (.lst _) => (fe η st).thn η fun z st => match z with
      | .pv v => match st[n]? with
        | some (.lst xs) => if xs.length < line then .next η (st.set n (.lst (xs ++ [v]))) else .bad
        | _ => .bad
      | _ => .bad
    | _ => .bad
  | _ => .bad
def insS (fa fi fe : FE) : FS := fun η st => (fa η st).thn η fun x st => match x with
  | .ref n => match st[n]? with
    | some (.lst _) => (consF fi (consF fe nilF) η st).thn η fun ys st => match ys with
      | [.pv (.int k), .pv v] => match st[n]? with
        | some (.lst xs) => if (xs.length < line ∧ 0 ≤ k ∧ k < 1000000) then .next η (st.set n (.lst (xs.take k.toNat ++ [v] ++ xs.drop k.toNat))) else .bad
        | _ => .bad
      | _ => .bad
    | _ => .bad
  | _ => .bad
def neverS : FS := fun _ _ => .bad
def dropS (fe : FE) : FS := fun η st => (fe η st).thn η fun _ st => .next η st
def retS (fe : FE) : FS := fun η st => (fe η st).thn η fun x st => .ret x st
def retNS : FS := fun _ st => .ret (.pv .none) st
def iteS (fc : Envr → Store → Res Bool) (fa fb : FS) : FS := fun η st => (fc η st).thn η fun c st => if c = true then fa η st else fb η st
def forBd (tg : Tg) (body : FS) : PV → Envr → Store → RS := fun x η st => match asgT tg (.pv x) η with
  | none => .bad
  | some η2 => body η2 st
def forS (tg : Tg) (it : FI) (body : FS) : FS := fun η st => (it η st).thn η fun items st => loopJ (forBd tg body) items η st
def whlS (fc : Envr → Store → Res Bool) (body : FS) (n : Nat) : FS := fun η st => whileJ fc body n η st
def raiseS (k : Nat) (fm : FE) : FS := fun η st => (fm η st).thn η fun x st => match x with
  | .pv (.str _) => .exc ⟨k, none⟩ η st
  | _ => .bad
def raisxS (k : Nat) (f : Str) (fe : FE) : FS := fun η st => (fe η st).thn η fun x st => match x with
  | .pv v => .exc ⟨k, some (f, v)⟩ η st
  | _ => .bad
def brkS : FS := fun η st => .brk η st
def cntS : FS := fun η st => .cnt η st
def nextS : FS := fun η st => .next η st
def seqS (f g : FS) : FS := fun η st => (f η st).seq g
mutual
def evS : IS → FS
  | .set i e => setS i (ev cs g e)
  | .setT tg e => setTS tg (ev cs g e)
  | .par is es => parS is (evs cs g es)
  | .aug i e => augS i (ev cs g e)
  | .sto a i e => stoS (ev cs g a) (ev cs g i) (ev cs g e)
  | .app a e => appS (ev cs g a) (ev cs g e)
  | .ins a i e => insS (ev cs g a) (ev cs g i) (ev cs g e)
  | .never => neverS
  | .drop e => dropS (ev cs g e)
  | .ret e => retS (ev cs g e)
  | .retN => retNS
  | .ife c a b => iteS (tst (ev cs g c)) (evSs a) (evSs b)
  | .for_ tg it body => forS tg (evI cs g it) (evSs body)
  | .while_ c body => whlS (tst (ev cs g c)) (evSs body) 100000
  | .raise k m => raiseS k (conF (.str m))
  | .raisx k f e => raisxS k f (ev cs g e)
  | .brk => brkS
  | .cnt => cntS
  | .pass => nextS
def evSs : ISs → FS
  | .nil => nextS
  | .cons s ss => seqS (evS s) (evSs ss)
end
end

/-- a def: how many parameters, how many slots, its body -/
structure DefJ where
  ps : Nat
  N : Nat
  body : ISs
def startJ (N : Nat) (xs : List SV) : Envr := xs.map some ++ List.replicate (N - xs.length) none
def exitJ (n : Nat) (x : SV) (st : Store) : Res SV := match x with
  | .pv v => .ok (.pv v) (st.take n)
  | .ref m => if m < n then .ok (.ref m) (st.take n) else if m = n then .ok (.ref m) (st.take (n + 1)) else .bad
def runDef (cs : Calls) (g : Glb) (d : DefJ) (xs : List SV) (st : Store) : Res SV :=
  match evSs cs g d.body (startJ d.N xs) st with
  | .next _ st' => exitJ st.length (.pv .none) st'
  | .ret v st' => exitJ st.length v st'
  | .exc e _ st' => .exc e (st'.take st.length)
  | _ => .bad
def callJ (defs : List (Option DefJ)) (g : Glb) : Nat → Calls
  | 0, _, _, _ => .bad
  | n + 1, j, xs, st => match defs[j]? with
    | some (some d) => if xs.length = d.ps then runDef (callJ defs g n) g d xs st else .bad
    | _ => .bad
end J
end

section
set_option maxRecDepth 100000
set_option maxHeartbeats 4000000
/-! J3m: tuple * int, any small number. -/
namespace J
open PySem PySem.Spec PyProof.Rows L2
theorem tuple_mulS (l : Addr) (items : Array Value) (n : Nat) (x : Int) (u : Tok) (c0 : (decide (x < -(2 ^ 63)) || decide (x ≥ 2 ^ 63)) = false) (c1 : (items.isEmpty || x == 1) = true) :
    Meets (Builtin.«tuple.__mul__» ⟨[.ref l, .int x u], []⟩) (fun _ R s => (∃ o, s.heap.get? l = some o ∧ o.cls = .type "tuple" ∧ o.data = .seq items n) ∧ R (.ok (.ret (Value.ref l))) s) :=
  .of_wp fun prog w A R s h => by
    obtain ⟨hp, g, d, tk, os⟩ := s
    obtain ⟨⟨⟨cls, dd, data, sl⟩, hl, hc, hd⟩, h⟩ := h
    simp only at hc hd
    subst hc hd
    have f1 := AutoSeq1.idx_int
    wp_walk using wpAny_loadPart' hl
    repeat (first
      | (refine wpAny_ite_false (decide_eq_false (by rw [c0]; exact Bool.false_ne_true)) ?_; wp_walk using wpAny_loadPart' hl)
      | (refine wpAny_ite_true (decide_eq_true c1) ?_; wp_walk using wpAny_loadPart' hl))
    exact ⟨_, rfl, h⟩
theorem tuple_mul0 (l : Addr) (items : Array Value) (n : Nat) (x : Int) (u : Tok) (c0 : (decide (x < -(2 ^ 63)) || decide (x ≥ 2 ^ 63)) = false) (c1 : (items.isEmpty || x == 1) = false) (c2 : (decide (x ≤ 0) || items.isEmpty) = true) :
    Meets (Builtin.«tuple.__mul__» ⟨[.ref l, .int x u], []⟩) (fun _ R s => (∃ o, s.heap.get? l = some o ∧ o.cls = .type "tuple" ∧ o.data = .seq items n) ∧
      R (.ok (.ret (Value.ref s.heap.objs.size))) { s with heap := s.heap.push { cls := Value.type "tuple", data := Data.seq #[] }, toks := s.toks }) :=
  .of_wp fun prog w A R s h => by
    obtain ⟨hp, g, d, tk, os⟩ := s
    obtain ⟨⟨⟨cls, dd, data, sl⟩, hl, hc, hd⟩, h⟩ := h
    simp only at hc hd
    subst hc hd
    have f1 := AutoSeq1.idx_int
    wp_walk using wpAny_loadPart' hl
    repeat (first
      | (refine wpAny_ite_false (decide_eq_false (by rw [c0]; exact Bool.false_ne_true)) ?_; wp_walk using wpAny_loadPart' hl)
      | (refine wpAny_ite_false (decide_eq_false (by rw [c1]; exact Bool.false_ne_true)) ?_; wp_walk using wpAny_loadPart' hl)
      | (refine wpAny_ite_true (decide_eq_true c2) ?_; wp_walk using wpAny_loadPart' hl))
    exact ⟨_, rfl, h⟩
def rMulT (K : PySem.W.Frag) : R2 := fun x y H Q => ∃ l k xs, x = .ref l ∧ y = .int k ∧ SqT K H l xs ∧ -1000 ≤ k ∧ k ≤ 1000 ∧ xs.length ≤ 1000 ∧ ((xs = [] ∨ k = 1) → Q (.ref l) H) ∧ (xs ≠ [] → k ≠ 1 → ∀ p, H p = none → Q (.ref p) (upd H p (.tup (List.replicate k.toNat xs).flatten)))
theorem op_mulT {X : Cx} : OpR X (binaryOp .Mult) (rMulT X.K) := by
  intro pins s σ H x y v u Q I rx ry h
  obtain ⟨l, k, xs, rfl, rfl, hT, h1, h2, hz, q1, q2⟩ := h
  by_cases hb : xs ≠ [] ∧ 2 ≤ k
  · exact op_repT pins s σ H _ _ v u Q I rx ry ⟨l, k, xs, rfl, rfl, hT, hb.1, hb.2, h2, hz, q2 hb.1 (by omega)⟩
  · cases rx
    obtain ⟨t, rfl⟩ := ry
    obtain ⟨its, r, ⟨⟨cls, dd, data, sl⟩, ho, hc, n, hd⟩, hs⟩ := I.tuple hT
    simp only at hc hd
    subst hc hd
    have hle : its.length = xs.length := r.length.symm
    have hemp : its.toArray.isEmpty = xs.isEmpty := by
      cases r <;> rfl
    have c0 : (decide (k < -(2 ^ 63)) || decide (k ≥ 2 ^ 63)) = false := by
      rw [decide_eq_false (by omega), decide_eq_false (by omega)] <;> rfl
    have road : ∀ (m : wpAny (model X.prog X.w) X.A (call (.builtin "tuple.__mul__") [.ref l, .int k t]) (EP X pins σ Q) X.xe s), wpAny (model X.prog X.w) X.A (binaryOp .Mult (.ref l) (.int k t)) (EP X pins σ Q) X.xe s := fun m =>
      wpAny_binaryOp_repeat_ref (T := "tuple") (U := "int") (by decide) ⟨_, ho, rfl⟩ (fun s' => typeIs_int s' k t) noFill_tuple_mul F.fills_int_mul F.slot_int_rmul repeat_tuple F.slot_int_index.lookup
        (call_meets F.slot_int_rmul (typeIs_int s k t) F.entry_int_rmul (F.args_int_rmul_2 _ _) (int_rmul_tuple k t l its.toArray n dd sl) ⟨ho, rfl, ⟨_, ho, rfl⟩, m⟩)
    refine road ?_
    by_cases hc1 : (its.toArray.isEmpty || k == 1) = true
    · refine call_meets F.slot_tuple_mul ⟨_, ho, rfl⟩ F.entry_tuple_mul (F.args_tuple_mul_2 _ _) (tuple_mulS l its.toArray n k t c0 hc1) ⟨⟨_, ho, rfl, rfl⟩, ?_⟩
      refine ⟨.ref l, H, I, rfl, q1 ?_⟩
      rw [Bool.or_eq_true, hemp] at hc1
      rcases hc1 with e | e
      · exact .inl (List.isEmpty_iff.mp e)
      · exact .inr (by simpa using e)
    · have hc1' : (its.toArray.isEmpty || k == 1) = false := by simpa using hc1
      have hx : xs ≠ [] := fun e => by
        rw [Bool.or_eq_false_iff, hemp, e] at hc1'
        cases hc1'.1
      have hk : k ≠ 1 := fun e => by
        rw [Bool.or_eq_false_iff, e] at hc1'
        cases hc1'.2
      have hk0 : k ≤ 0 := by
        have : ¬ 2 ≤ k := fun e => hb ⟨hx, e⟩
        omega
      refine call_meets F.slot_tuple_mul ⟨_, ho, rfl⟩ F.entry_tuple_mul (F.args_tuple_mul_2 _ _) (tuple_mul0 l its.toArray n k t c0 hc1' (by rw [decide_eq_true hk0]; rfl)) ⟨⟨_, ho, rfl, rfl⟩, ?_⟩
      have e0 : k.toNat = 0 := by omega
      have := q2 hx hk s.heap.objs.size (I.hok.fresh (Nat.le_refl _))
      rw [e0] at this
      refine ⟨.ref s.heap.objs.size, _, I.laid (t' := s.toks) (o := .tup []) (fun b ob q => Heap.get?_push_of_some _ q) (Nat.le_refl _) ?_, rfl, this⟩
      exact ⟨Nat.zero_le _, [], .nil, IsTup.new _ _⟩
end J
end

section
set_option maxRecDepth 100000
set_option maxHeartbeats 2000000
/-! J3: the operations by values. -/
namespace J
open PySem PySem.Spec PyProof.Rows L2
variable [LamT]

theorem line_le : line ≤ sizeLine := by rw [sizeLine_eq]; decide
theorem line_lt : line < sizeLine := by rw [sizeLine_eq]; decide
theorem strOk_append {x y : Str} (h1 : PyData.strOk x = true) (h2 : PyData.strOk y = true) : PyData.strOk (x ++ y) = true := by
  show (x.cps ++ y.cps).all _ = true
  rw [Array.all_append]
  exact Bool.and_eq_true_iff.mpr ⟨h1, h2⟩
theorem length_append (x y : Str) : (x ++ y).length = x.length + y.length := by
  show (x.cps ++ y.cps).size = _
  rw [Array.size_append]; rfl
theorem strOk_one {s : Str} {c : Nat} (h : PyData.strOk s = true) (hc : c ∈ s.cps.toList) : PyData.strOk ⟨#[c]⟩ = true := by
  have q := Array.all_eq_true_iff_forall_mem.mp (show s.cps.all (· < 0x110000) = true from h)
  have := q c (by simpa using hc)
  show (#[c] : Array Nat).all (· < 0x110000) = true
  simpa using this

/-- what follows a value found -/
def Gives (K : PySem.W.Frag) (Hi : Hp) (st : Store) (μ : List Addr) (φ : List (Addr × HO)) (c : PV) (Q : VK) : Prop :=
  ∀ z H' Hi', Same Hi Hi' → Sto K st H' Hi' μ φ → Rp K Hi' c z → Q z H'
section
variable {K : PySem.W.Frag} {st : Store} {H Hi : Hp} {μ : List Addr} {φ : List (Addr × HO)} {Q : VK}
theorem gives_here (s : Sto K st H Hi μ φ) {c : PV} (h : Gives K Hi st μ φ c Q) {z : V} (r : Rp K Hi c z) : Q z H := h z H Hi (Same.refl _) s r
theorem gives_lst (s : Sto K st H Hi μ φ) {xs : List PV} {vs : List V} (h : Gives K Hi st μ φ (.list xs) Q) (r : Rps K Hi xs vs) (hl : xs.length ≤ sizeLine) (p : Addr) (hp : H p = none) : Q (.ref p) (upd H p (.lst vs)) := by
  obtain ⟨s', e⟩ := s.alloc (o := .lst vs) hp
  exact h _ _ _ e.h s' (.lst (.of upd_same) (r.mono e.h) hl)
theorem gives_tup (s : Sto K st H Hi μ φ) {xs : List PV} {vs : List V} (h : Gives K Hi st μ φ (.tuple xs) Q) (r : Rps K Hi xs vs) (hl : xs.length ≤ sizeLine) (p : Addr) (hp : H p = none) : Q (.ref p) (upd H p (.tup vs)) := by
  obtain ⟨s', e⟩ := s.alloc (o := .tup vs) hp
  exact h _ _ _ e.h s' (.tup (.of upd_same) (r.mono e.h) hl)
end
def rO (K : PySem.W.Frag) (f : PV → PV → Option PV) : R2 := fun x y H Q => ∃ a b st Hi μ φ c, Sto K st H Hi μ φ ∧ Rp K Hi a x ∧ Rp K Hi b y ∧ f a b = some c ∧ Gives K Hi st μ φ c Q
def r1 (K : PySem.W.Frag) (f : PV → Option PV) : V → Hp → VK → Prop := fun x H Q => ∃ a st Hi μ φ c, Sto K st H Hi μ φ ∧ Rp K Hi a x ∧ f a = some c ∧ Gives K Hi st μ φ c Q
def rC1 (K : PySem.W.Frag) (f : PV → Option PV) : List V → Hp → VK → Prop := fun xs H Q => ∃ x, xs = [x] ∧ r1 K f x H Q
def rSl (K : PySem.W.Frag) : V → Option Int → Option Int → Hp → VK → Prop := fun x lo hi H Q => ∃ a st Hi μ φ c, Sto K st H Hi μ φ ∧ Rp K Hi a x ∧ sliV a lo hi = some c ∧ Gives K Hi st μ φ c Q

section
variable {X : Cx}
/-! ### + of lists of any kind -/
def rCatL (K : PySem.W.Frag) : R2 := fun x y H Q => ∃ l b xs zs, x = .ref l ∧ y = .ref b ∧ SqL K H l xs ∧ SqL K H b zs ∧ xs.length + zs.length ≤ sizeLine ∧ ∀ p, H p = none → Q (.ref p) (upd H p (.lst (xs ++ zs)))
theorem op_catL : OpR X (binaryOp .Add) (rCatL X.K) := by
  intro pins s σ H x y v u Q I rx ry h
  obtain ⟨l, b, xs, zs, rfl, rfl, hH, hB, hz, q⟩ := h
  cases rx
  cases ry
  obtain ⟨its, r, ⟨⟨cls, dd, data, sl⟩, n, ho, hc, hdd, hd⟩, z⟩ := I.list hH
  obtain ⟨its2, r2, ⟨⟨cls2, dd2, data2, sl2⟩, n2, ho2, hc2, hdd2, hd2⟩, z2⟩ := I.list hB
  simp only at hc hd hc2 hd2 hdd hdd2
  subst hc hd hc2 hd2 hdd hdd2
  have e1 := r.length
  have e2 := r2.length
  refine concat_meets ⟨_, ho, rfl⟩ ⟨_, ho2, rfl⟩ noFill_list_add seq_list_add PySem.F.slot_list_add PySem.F.entry_list_add (PySem.F.args_list_add_2 _ _) (list_addW l b its.toArray its2.toArray n n2 none none sl sl2 (by simp; omega)) ⟨ho, ho2, ?_⟩
  have ea : its.toArray ++ its2.toArray = (its ++ its2).toArray := by simp
  rw [ea]
  exact ⟨.ref _, _, I.lnew (t' := s.toks) (r.append r2) (by rw [List.length_append]; omega), rfl, q _ I.fresh⟩

theorem op_addJ : OpR X (binaryOp .Add) (rO X.K addV) := by
  intro pins s σ H x y v u Q I rx ry ⟨a, b, st, Hi, μ, φ, c, S, ra, rb, e, q⟩
  unfold addV at e
  split at e
  · cases ra; cases rb; cases e
    exact op_add pins s σ H _ _ v u Q I rx ry ⟨_, _, rfl, rfl, gives_here S q (.int _)⟩
  · split at e
    · rename_i hl
      cases ra with
      | str _ o1 l1 => cases rb with
        | str _ o2 l2 =>
          cases e
          have hl' := Nat.le_trans hl line_le
          exact op_add_str pins s σ H _ _ v u Q I rx ry ⟨_, _, rfl, rfl, hl', gives_here S q (.str _ (strOk_append o1 o2) (by rw [length_append]; exact hl'))⟩
    · cases e
  · split at e
    · rename_i hl
      cases ra with
      | lst a1 a2 a3 => cases rb with
        | lst b1 b2 b3 =>
          cases e
          have hl' := Nat.le_trans hl line_le
          have e1 := a2.length
          have e2 := b2.length
          exact op_catL pins s σ H _ _ v u Q I rx ry ⟨_, _, _, _, rfl, rfl, S.sub.seq a1, S.sub.seq b1, by omega, gives_lst S q (a2.append b2) (by rw [List.length_append]; exact hl')⟩
    · cases e
  · split at e
    · rename_i hl
      cases ra with
      | @tup pa xs vs a1 a2 a3 => cases rb with
        | @tup pb ys ws b1 b2 b3 =>
          cases e
          have hl' := Nat.le_trans hl line_le
          have e1 := a2.length
          have e2 := b2.length
          refine op_catA pins s σ H _ _ v u Q I rx ry ⟨_, _, _, _, rfl, rfl, sqT_mono S.sub a1, sqT_mono S.sub b1, by omega, fun h => ?_, fun _ h => ?_, fun _ _ => gives_tup S q (a2.append b2) (by rw [List.length_append]; exact hl')⟩
          · subst h
            cases a2
            rw [List.nil_append] at q
            exact gives_here S q (.tup b1 b2 b3)
          · subst h
            cases b2
            rw [List.append_nil] at q
            exact gives_here S q (.tup a1 a2 a3)
    · cases e
  · cases e
theorem op_subJ : OpR X (binaryOp .Sub) (rO X.K subV) := by
  intro pins s σ H x y v u Q I rx ry ⟨a, b, st, Hi, μ, φ, c, S, ra, rb, e, q⟩
  unfold subV at e
  split at e
  · cases ra; cases rb; cases e
    exact op_sub pins s σ H _ _ v u Q I rx ry ⟨_, _, rfl, rfl, gives_here S q (.int _)⟩
  · cases e
theorem Rps.rep {K : PySem.W.Frag} {H : Hp} {xs : List PV} {vs : List V} (r : Rps K H xs vs) : ∀ n : Nat, Rps K H (List.replicate n xs).flatten (List.replicate n vs).flatten
  | 0 => .nil
  | n + 1 => by
    rw [List.replicate_succ, List.replicate_succ, List.flatten_cons, List.flatten_cons]
    exact r.append (r.rep n)
theorem op_mulJ : OpR X (binaryOp .Mult) (rO X.K mulV) := by
  intro pins s σ H x y v u Q I rx ry ⟨a, b, st, Hi, μ, φ, c, S, ra, rb, e, q⟩
  unfold mulV at e
  split at e
  · rename_i i j
    split at e
    · rename_i hm
      cases ra; cases rb; cases e
      refine op_mul pins s σ H _ _ v u Q I rx ry ⟨_, _, rfl, rfl, ?_, gives_here S q (.int _)⟩
      unfold mulOk at hm
      simp only [Bool.or_eq_true, Bool.and_eq_true, decide_eq_true_eq] at hm
      rcases hm with h | h
      · exact .inr h
      · exact .inl h
    · cases e
  · rename_i xs k
    split at e
    · rename_i hm
      obtain ⟨h1, h2, h3⟩ := hm
      cases ra with
      | @tup pa _ vs a1 a2 a3 =>
        cases rb
        cases e
        have e1 := a2.length
        refine op_mulT pins s σ H _ _ v u Q I rx ry ⟨_, _, _, rfl, rfl, sqT_mono S.sub a1, h1, h2, by omega, fun h => ?_, fun hx hk p hp => gives_tup S q (a2.rep _) ?_ p hp⟩
        · have e2 : (List.replicate k.toNat xs).flatten = xs := by
            rcases h with h | h
            · subst h
              cases a2
              generalize k.toNat = n
              induction n with
              | zero => rfl
              | succ n ih => rw [List.replicate_succ, List.flatten_cons, ih]; rfl
            · subst h
              show (List.replicate 1 xs).flatten = xs
              simp
          rw [e2] at q
          exact gives_here S q (.tup a1 a2 a3)
        · rw [PyProof.Rows.lm_len_rep_flat, sizeLine_eq]
          have : k.toNat * xs.length ≤ 1000 * 1000 := Nat.mul_le_mul (by omega) h3
          omega
    · cases e
  · rename_i z k
    split at e
    · rename_i hm
      obtain ⟨h1, h2, h3, h4, h5⟩ := hm
      cases ra; cases rb
      cases e
      obtain ⟨t, rfl⟩ := rx
      obtain ⟨t2, rfl⟩ := ry
      have ok : MulOk z k := by
        refine ⟨?_, fun _ _ => ?_, fun _ _ => ?_⟩
        · rw [decide_eq_false (by omega), decide_eq_false (by omega)] <;> rfl
        · have : (z.length : Int) ≤ (2 ^ 63 - 1) / k := by
            apply Int.le_ediv_of_mul_le (by omega)
            have : (z.length : Int) * k ≤ 1000 * 1000 := Int.mul_le_mul (by omega) (by omega) (by omega) (by omega)
            omega
          omega
        · have : z.length * k.toNat ≤ 1000 * 1000 := Nat.mul_le_mul h3 (by omega)
          unfold Builtin.Str.tooLong sizeLine
          simp
          omega
      refine SB.mul ok fun t' k' => ?_
      exact ⟨.str _, H, I.tok _, ⟨_, rfl⟩, gives_here S q (.str _ h4 (Nat.le_trans h5 line_le))⟩
    · cases e
  · cases e
theorem op_divJ : OpR X (binaryOp .FloorDiv) (rO X.K divV) := by
  intro pins s σ H x y v u Q I rx ry ⟨a, b, st, Hi, μ, φ, c, S, ra, rb, e, q⟩
  unfold divV at e
  split at e
  · rename_i i j
    split at e
    · rename_i hm
      cases ra; cases rb; cases e
      unfold divOk at hm
      simp only [Bool.and_eq_true, decide_eq_true_eq] at hm
      exact op_fdiv pins s σ H _ _ v u Q I rx ry ⟨_, _, rfl, rfl, hm, gives_here S q (.int _)⟩
    · cases e
  · cases e
theorem op_modJ : OpR X (binaryOp .Mod) (rO X.K modV) := by
  intro pins s σ H x y v u Q I rx ry ⟨a, b, st, Hi, μ, φ, c, S, ra, rb, e, q⟩
  unfold modV at e
  split at e
  · rename_i i j
    split at e
    · rename_i hm
      cases ra; cases rb; cases e
      exact op_mod pins s σ H _ _ v u Q I rx ry ⟨_, _, rfl, rfl, hm, gives_here S q (.int _)⟩
    · cases e
  · cases e
theorem op_powJ : OpR X (binaryOp .Pow) (rO X.K powV) := by
  intro pins s σ H x y v u Q I rx ry ⟨a, b, st, Hi, μ, φ, c, S, ra, rb, e, q⟩
  unfold powV at e
  split at e
  · rename_i i j
    split at e
    · rename_i hm
      cases ra; cases rb; cases e
      unfold powOk at hm
      simp only [Bool.and_eq_true, decide_eq_true_eq] at hm
      exact op_pow pins s σ H _ _ v u Q I rx ry ⟨_, _, rfl, rfl, ⟨hm.1.1, hm.1.2, hm.2⟩, gives_here S q (.int _)⟩
    · cases e
  · cases e
theorem op_noneJ {f : Value → Value → Sem Value} : OpR X f (rO X.K fun _ _ => none) := by
  intro pins s σ H x y v u Q I rx ry ⟨a, b, st, Hi, μ, φ, c, S, ra, rb, e, q⟩
  cases e
theorem op_binJ (op : Operator) : OpR X (binaryOp op) (rO X.K (binV op)) := by
  cases op with
  | Add => exact op_addJ
  | Sub => exact op_subJ
  | Mult => exact op_mulJ
  | FloorDiv => exact op_divJ
  | Mod => exact op_modJ
  | Pow => exact op_powJ
  | _ => exact op_noneJ
theorem un_negJ : UnR X (unaryOp .USub) (r1 X.K negV) := by
  intro pins s σ H x v Q I rx ⟨a, st, Hi, μ, φ, c, S, ra, e, q⟩
  unfold negV at e
  split at e
  · cases ra; cases e
    exact un_neg pins s σ H _ v Q I rx ⟨_, rfl, gives_here S q (.int _)⟩
  · cases e

/-! ### comparisons -/
mutual
theorem dle_depth : ∀ (x : PV) (n : Nat), dle n x = true → x.depth ≤ n + 1
  | .none, n, _ => by simp [PyData.depth]
  | .bool _, n, _ => by simp [PyData.depth]
  | .int _, n, _ => by simp [PyData.depth]
  | .str _, n, _ => by simp [PyData.depth]
  | .list xs, 0, h => by
    have e : xs = [] := by simpa [dle] using h
    subst e
    simp [PyData.depth, PyData.depthAll]
  | .tuple xs, 0, h => by
    have e : xs = [] := by simpa [dle] using h
    subst e
    simp [PyData.depth, PyData.depthAll]
  | .list xs, n + 1, h => by
    have q := dle_depthAll xs n (by simpa [dle] using h)
    simp only [PyData.depth]; omega
  | .tuple xs, n + 1, h => by
    have q := dle_depthAll xs n (by simpa [dle] using h)
    simp only [PyData.depth]; omega
  | .dict _, n, h => by cases n <;> simp [dle] at h
theorem dle_depthAll : ∀ (xs : List PV) (n : Nat), (∀ x ∈ xs, dle n x = true) → PyData.depthAll xs ≤ n + 1
  | [], n, _ => by simp [PyData.depthAll]
  | x :: xs, n, h => by
    have h1 := dle_depth x n (h x List.mem_cons_self)
    have h2 := dle_depthAll xs n fun y hy => h y (List.mem_cons_of_mem _ hy)
    simp only [PyData.depthAll]
    omega
end
theorem room_eq {A : Around} {a b : PV} (hu : A.units + 64 < cLine) (h : (dle 8 a || dle 8 b) = true) : A.units + min a.depth b.depth < cLine := by
  rcases Bool.or_eq_true_iff.mp h with h | h
  · have := dle_depth a 8 h
    have h2 : min a.depth b.depth ≤ a.depth := Nat.min_le_left _ _
    omega
  · have := dle_depth b 8 h
    have h2 : min a.depth b.depth ≤ b.depth := Nat.min_le_right _ _
    omega
def bV (f : PV → PV → Option Bool) : PV → PV → Option PV := fun a b => (f a b).map .bool
theorem op_eqJ (hu : X.A.units + 64 < cLine) : OpR X (compareOp .Eq) (rO X.K (bV eqP)) := by
  intro pins s σ H x y v u Q I rx ry ⟨a, b, st, Hi, μ, φ, c, S, ra, rb, e, q⟩
  simp only [bV, eqP] at e
  split at e
  · rename_i hd
    cases e
    obtain ⟨as, g1⟩ := Dp.reads I a x v (ra.mono S.sub).dp rx
    obtain ⟨bs, g2⟩ := Dp.reads I b y u (rb.mono S.sub).dp ry
    exact SeqAt.compareEq_reads g1 g2 ra.can rb.can (room_eq hu hd) ⟨.bl _, H, I, rfl, gives_here S q (.bl _)⟩
  · cases e
theorem op_neJ (hu : X.A.units + 64 < cLine) : OpR X (compareOp .NotEq) (rO X.K (bV fun a b => (eqP a b).map (!·))) := by
  intro pins s σ H x y v u Q I rx ry ⟨a, b, st, Hi, μ, φ, c, S, ra, rb, e, q⟩
  simp only [bV, eqP] at e
  split at e
  · rename_i hd
    cases e
    obtain ⟨as, g1⟩ := Dp.reads I a x v (ra.mono S.sub).dp rx
    obtain ⟨bs, g2⟩ := Dp.reads I b y u (rb.mono S.sub).dp ry
    exact SeqAt.compareNe_reads g1 g2 ra.can rb.can (room_eq hu hd) ⟨.bl _, H, I, rfl, gives_here S q (.bl _)⟩
  · cases e
theorem op_ltJ : OpR X (compareOp .Lt) (rO X.K (bV ltP)) := by
  intro pins s σ H x y v u Q I rx ry ⟨a, b, st, Hi, μ, φ, c, S, ra, rb, e, q⟩
  simp only [bV, ltP] at e
  split at e
  · cases ra; cases rb; cases e
    exact op_lt pins s σ H _ _ v u Q I rx ry ⟨_, _, rfl, rfl, gives_here S q (.bl _)⟩
  · cases ra; cases rb; cases e
    exact op_lt_str pins s σ H _ _ v u Q I rx ry ⟨_, _, rfl, rfl, gives_here S q (.bl _)⟩
  · cases e
theorem op_leJ : OpR X (compareOp .LtE) (rO X.K (bV leP)) := by
  intro pins s σ H x y v u Q I rx ry ⟨a, b, st, Hi, μ, φ, c, S, ra, rb, e, q⟩
  simp only [bV, leP] at e
  split at e
  · cases ra; cases rb; cases e
    exact op_le pins s σ H _ _ v u Q I rx ry ⟨_, _, rfl, rfl, gives_here S q (.bl _)⟩
  · cases ra; cases rb; cases e
    exact op_le_str pins s σ H _ _ v u Q I rx ry ⟨_, _, rfl, rfl, gives_here S q (.bl _)⟩
  · cases e
theorem op_gtJ : OpR X (compareOp .Gt) (rO X.K (bV fun a b => ltP b a)) := by
  intro pins s σ H x y v u Q I rx ry ⟨a, b, st, Hi, μ, φ, c, S, ra, rb, e, q⟩
  simp only [bV, ltP] at e
  split at e
  · cases ra; cases rb; cases e
    exact op_gt pins s σ H _ _ v u Q I rx ry ⟨_, _, rfl, rfl, gives_here S q (.bl _)⟩
  · cases ra; cases rb; cases e
    exact op_gt_str pins s σ H _ _ v u Q I rx ry ⟨_, _, rfl, rfl, gives_here S q (.bl _)⟩
  · cases e
theorem op_geJ : OpR X (compareOp .GtE) (rO X.K (bV fun a b => leP b a)) := by
  intro pins s σ H x y v u Q I rx ry ⟨a, b, st, Hi, μ, φ, c, S, ra, rb, e, q⟩
  simp only [bV, leP] at e
  split at e
  · cases ra; cases rb; cases e
    exact op_ge pins s σ H _ _ v u Q I rx ry ⟨_, _, rfl, rfl, gives_here S q (.bl _)⟩
  · cases ra; cases rb; cases e
    exact op_ge_str pins s σ H _ _ v u Q I rx ry ⟨_, _, rfl, rfl, gives_here S q (.bl _)⟩
  · cases e
theorem room_in {A : Around} {xs : List PV} {b : PV} (hu : A.units + 64 < cLine) (h : dle 8 b = true) : A.units + 1 + min (PyData.depthAll xs) b.depth < cLine := by
  have := dle_depth b 8 h
  have h2 : min (PyData.depthAll xs) b.depth ≤ b.depth := Nat.min_le_right _ _
  omega
theorem sign_some {x : PV} {z : Str} {c : PV} (e : Option.map PyData.bool (signIn x z) = some c) : ∃ c' z', x = .str ⟨#[c']⟩ ∧ z = z' ∧ c = .bool (decide (c' ∈ z'.cps.toList)) := by
  unfold signIn at e
  split at e
  · rename_i t
    split at e
    · rename_i c' h
      cases e
      refine ⟨c', z, ?_, rfl, rfl⟩
      congr 1
      obtain ⟨a⟩ := t
      have : a = #[c'] := by
        apply Array.ext'
        exact h
      rw [this]
    · cases e
  · cases e
theorem op_inJ (hu : X.A.units + 64 < cLine) : OpR X (compareOp .In) (rO X.K (bV inP)) := by
  intro pins s σ H x y v u Q I rx ry ⟨a, b, st, Hi, μ, φ, c, S, ra, rb, e, q⟩
  obtain ⟨as, g1⟩ := Dp.reads I a x v (ra.mono S.sub).dp rx
  obtain ⟨bs, g2⟩ := Dp.reads I b y u (rb.mono S.sub).dp ry
  simp only [bV, inP] at e
  have cb := rb.can
  split at e
  · split at e
    · rename_i hd
      cases e
      exact SeqAt.in_list_reads g2 g1 (by simpa [PyData.canLay0] using cb) ra.can (room_in hu hd) ⟨.bl _, H, I, rfl, gives_here S q (.bl _)⟩
    · cases e
  · split at e
    · rename_i hd
      cases e
      exact SeqAt.in_tuple_reads g2 g1 (by simpa [PyData.canLay0] using cb) ra.can (room_in hu hd) ⟨.bl _, H, I, rfl, gives_here S q (.bl _)⟩
    · cases e
  · obtain ⟨c', z, h1, h2, h3⟩ := sign_some e
    subst h1 h2 h3
    cases ra; cases rb
    exact op_in_sign pins s σ H _ _ v u Q I rx ry ⟨_, _, rfl, rfl, gives_here S q (.bl _)⟩
  · cases e
theorem op_niJ (hu : X.A.units + 64 < cLine) : OpR X (compareOp .NotIn) (rO X.K (bV fun a b => (inP a b).map (!·))) := by
  intro pins s σ H x y v u Q I rx ry ⟨a, b, st, Hi, μ, φ, c, S, ra, rb, e, q⟩
  obtain ⟨as, g1⟩ := Dp.reads I a x v (ra.mono S.sub).dp rx
  obtain ⟨bs, g2⟩ := Dp.reads I b y u (rb.mono S.sub).dp ry
  simp only [bV, inP] at e
  have cb := rb.can
  split at e
  · split at e
    · rename_i hd
      cases e
      exact SeqAt.notIn_list_reads g2 g1 (by simpa [PyData.canLay0] using cb) ra.can (room_in hu hd) ⟨.bl _, H, I, rfl, gives_here S q (.bl _)⟩
    · cases e
  · split at e
    · rename_i hd
      cases e
      exact SeqAt.notIn_tuple_reads g2 g1 (by simpa [PyData.canLay0] using cb) ra.can (room_in hu hd) ⟨.bl _, H, I, rfl, gives_here S q (.bl _)⟩
    · cases e
  · rename_i z
    have e' : ∃ r, signIn a z = some r ∧ c = .bool (!r) := by
      cases q : signIn a z with
      | none => rw [q] at e; cases e
      | some r => rw [q] at e; cases e; exact ⟨r, rfl, rfl⟩
    obtain ⟨r, e1, rfl⟩ := e'
    obtain ⟨c', z, h1, h2, h3⟩ := sign_some (c := .bool r) (by rw [e1]; rfl)
    cases h3
    subst h1 h2
    cases ra; cases rb
    exact op_notIn_sign pins s σ H _ _ v u Q I rx ry ⟨_, _, rfl, rfl, gives_here S q (.bl _)⟩
  · cases e
theorem op_cmpJ (op : CmpOp) (hu : X.A.units + 64 < cLine) : OpR X (compareOp op) (rO X.K (bV (cmpV op))) := by
  cases op with
  | Eq => exact op_eqJ hu
  | NotEq => exact op_neJ hu
  | Lt => exact op_ltJ
  | LtE => exact op_leJ
  | Gt => exact op_gtJ
  | GtE => exact op_geJ
  | In => exact op_inJ hu
  | NotIn => exact op_niJ hu
  | _ => exact op_noneJ
def nonV (neg : Bool) : PV → PV → Option PV := fun a b => if isNon b = true then some (.bool (if neg then !isNon a else isNon a)) else none
theorem isNon_rel {K : PySem.W.Frag} {H : Hp} {a : PV} {x : V} (r : Rp K H a x) : decide (x = .non) = isNon a := by
  cases r <;> simp [isNon]
theorem op_isJ : OpR X (compareOp .Is) (rO X.K (nonV false)) := by
  intro pins s σ H x y v u Q I rx ry ⟨a, b, st, Hi, μ, φ, c, S, ra, rb, e, q⟩
  unfold nonV at e
  split at e
  · rename_i hb
    cases rb <;> simp [isNon] at hb
    cases e
    refine op_isN pins s σ H _ _ v u Q I rx ry ⟨rfl, ?_⟩
    rw [isNon_rel ra]
    exact gives_here S q (.bl _)
  · cases e
theorem op_isnJ : OpR X (compareOp .IsNot) (rO X.K (nonV true)) := by
  intro pins s σ H x y v u Q I rx ry ⟨a, b, st, Hi, μ, φ, c, S, ra, rb, e, q⟩
  unfold nonV at e
  split at e
  · rename_i hb
    cases rb <;> simp [isNon] at hb
    cases e
    refine op_notN pins s σ H _ _ v u Q I rx ry ⟨rfl, ?_⟩
    rw [isNon_rel ra]
    exact gives_here S q (.bl _)
  · cases e

/-! ### truth -/
theorem tru_rel {K : PySem.W.Frag} {H : Hp} {a : PV} {x : V} {b : Bool} (r : Rp K H a x) (h : truP a = some b) : TruV K x H b := by
  cases r with
  | non => cases h; exact rfl
  | bl c => cases h; exact rfl
  | int i => cases h; exact rfl
  | str z o l => cases h; exact ⟨l, rfl⟩
  | lst q1 q2 q3 => cases h; exact .inl ⟨_, q1, by cases q2 <;> rfl⟩
  | tup q1 q2 q3 => cases h; exact .inr (.inl ⟨_, q1, by cases q2 <;> rfl⟩)
theorem truV_mono {K : PySem.W.Frag} {H H' : Hp} {x : V} {b : Bool} (e : Same H H') (h : TruV K x H b) : TruV K x H' b := by
  cases x with
  | ref p =>
    rcases h with ⟨xs, h, k⟩ | ⟨xs, h, k⟩ | ⟨xs, h, k⟩
    · exact .inl ⟨xs, e.seq h, k⟩
    · exact .inr (.inl ⟨xs, sqT_mono e h, k⟩)
    · exact .inr (.inr ⟨xs, e _ _ h, k⟩)
  | _ => exact h

/-! ### items and slices -/
theorem ixN_len {n m : Nat} (h : n = m) (i : Int) : ixN n i = ixN m i := by rw [h]
theorem atI_rel {K : PySem.W.Frag} {H : Hp} {xs : List PV} {vs : List V} {i : Int} {c : PV} (r : Rps K H xs vs) (h : atI xs i = some c) : ∃ z, atI vs i = some z ∧ Rp K H c z := by
  unfold atI at h ⊢
  rw [← r.length]
  cases e : ixN xs.length i with
  | none => rw [e] at h; cases h
  | some j =>
    rw [e] at h
    obtain ⟨z, h1, h2⟩ := r.get (i := j) h
    exact ⟨z, h1, h2⟩
theorem atI_mem {α : Type} {xs : List α} {i : Int} {c : α} (h : atI xs i = some c) : c ∈ xs := by
  unfold atI at h
  cases e : ixN xs.length i with
  | none => rw [e] at h; cases h
  | some j => rw [e] at h; exact List.mem_of_getElem? h
theorem one_le : (1 : Nat) ≤ sizeLine := by rw [sizeLine_eq]; decide
theorem ix_J : IxR X (rO X.K idxV) := by
  intro value slice pins s σ H x y v u Q I rx ry ⟨a, b, st, Hi, μ, φ, c, S, ra, rb, e, q⟩ hs
  unfold idxV at e
  split at e
  · cases ra with
    | lst a1 a2 a3 => cases rb with
      | int i =>
        obtain ⟨z, h1, h2⟩ := atI_rel a2 e
        exact ix_list value slice pins s σ H _ _ v u Q I rx ry ⟨_, _, _, _, rfl, rfl, S.sub.seq a1, h1, gives_here S q h2⟩ hs
  · cases ra with
    | tup a1 a2 a3 => cases rb with
      | int i =>
        obtain ⟨z, h1, h2⟩ := atI_rel a2 e
        exact ix_tup value slice pins s σ H _ _ v u Q I rx ry ⟨_, _, _, _, rfl, rfl, sqT_mono S.sub a1, h1, gives_here S q h2⟩ hs
  · rename_i z i
    cases ra with
    | str _ o l => cases rb with
      | int _ =>
        cases h : atI z.cps.toList i with
        | none => rw [h] at e; cases e
        | some n =>
          rw [h] at e
          cases e
          exact ix_str value slice pins s σ H _ _ v u Q I rx ry ⟨_, _, _, rfl, rfl, l, h, gives_here S q (.str _ (strOk_one o (atI_mem h)) one_le)⟩ hs
  · cases e
theorem cutL_rel {K : PySem.W.Frag} {H : Hp} {xs : List PV} {vs : List V} (r : Rps K H xs vs) (lo hi : Option Int) : Rps K H (cutL xs lo hi) (cutV vs lo hi) := by
  unfold cutL cutV
  rw [r.length]
  exact (r.drop _).take _
theorem cutL_le {α : Type} (xs : List α) (lo hi : Option Int) : (cutL xs lo hi).length ≤ xs.length := by
  unfold cutL
  rw [List.length_take, List.length_drop]
  omega
theorem cutL_whole {α : Type} {xs : List α} {lo hi : Option Int} (h : HT.sIx xs.length 0 lo = 0 ∧ HT.sIx xs.length xs.length hi = xs.length) : cutL xs lo hi = xs := by
  unfold cutL
  rw [h.1, h.2]
  simp
theorem strOk_cut {z : Str} (h : PyData.strOk z = true) (lo hi : Option Int) : PyData.strOk (cutS z lo hi) = true := by
  have q := Array.all_eq_true_iff_forall_mem.mp (show z.cps.all (· < 0x110000) = true from h)
  show (Array.all _ _) = true
  refine Array.all_eq_true_iff_forall_mem.mpr fun c hc => ?_
  have hc' : c ∈ ((z.cps.toList.drop (HT.sIx z.length 0 lo)).take (HT.sIx z.length z.length hi - HT.sIx z.length 0 lo)).toArray := hc
  rw [List.mem_toArray] at hc'
  exact q c (by simpa using List.mem_of_mem_drop (List.mem_of_mem_take hc'))
theorem sl_J : SlR X (rSl X.K) := by
  intro pins s σ H x v vl vu lo hi sl Q I rx hs pl pu ⟨a, st, Hi, μ, φ, c, S, ra, e, q⟩
  unfold sliV at e
  split at e
  · cases ra with
    | lst a1 a2 a3 =>
      cases e
      exact sl_list pins s σ H _ v vl vu _ _ sl Q I rx hs pl pu ⟨_, _, rfl, S.sub.seq a1, gives_lst S q (cutL_rel a2 _ _) (Nat.le_trans (cutL_le _ _ _) a3)⟩
  · cases ra with
    | @tup pa xs vs a1 a2 a3 =>
      cases e
      refine sl_tupA pins s σ H _ v vl vu _ _ sl Q I rx hs pl pu ⟨_, _, rfl, sqT_mono S.sub a1, fun h => ?_, fun _ => gives_tup S q (cutL_rel a2 _ _) (Nat.le_trans (cutL_le _ _ _) a3)⟩
      rw [← a2.length] at h
      rw [cutL_whole h] at q
      exact gives_here S q (.tup a1 a2 a3)
  · cases ra with
    | str z o l =>
      cases e
      exact sl_str pins s σ H _ v vl vu _ _ sl Q I rx hs pl pu ⟨_, rfl, l, gives_here S q (.str _ (strOk_cut o _ _) (Nat.le_trans (cutS_length _ _ _) l))⟩
  · cases e

/-! ### built-in functions -/
theorem boolsOf_rel {K : PySem.W.Frag} {H : Hp} : ∀ {xs : List PV} {vs : List V} {bs : List Bool}, Rps K H xs vs → boolsOf xs = some bs → vs = bs.map V.bl
  | _, _, _, .nil, e => by cases e; rfl
  | _, _, bs, .cons r t, e => by
    cases r with
    | bl b =>
      simp only [boolsOf] at e
      cases q : boolsOf _ with
      | none => rw [q] at e; cases e
      | some cs =>
        rw [q] at e
        cases e
        rw [List.map_cons, boolsOf_rel t q]
    | _ => simp [boolsOf] at e
theorem intsOf_rel {K : PySem.W.Frag} {H : Hp} : ∀ {xs : List PV} {vs : List V} {bs : List Int}, Rps K H xs vs → intsOf xs = some bs → vs = bs.map V.int
  | _, _, _, .nil, e => by cases e; rfl
  | _, _, bs, .cons r t, e => by
    cases r with
    | int b =>
      simp only [intsOf] at e
      cases q : intsOf _ with
      | none => rw [q] at e; cases e
      | some cs =>
        rw [q] at e
        cases e
        rw [List.map_cons, intsOf_rel t q]
    | _ => simp [intsOf] at e
def biVal : BI → Value
  | .len => .builtin "len"
  | .int => .type "int"
  | .tup => .type "tuple"
  | .lst => .type "list"
  | .all => .builtin "all"
  | .any => .builtin "any"
  | .sum => .builtin "sum"
theorem call_biJ (f : BI) (hc : X.calm = true) : CallR X (biVal f) (rC1 X.K (biV f)) := by
  intro pins s σ H xs us Q I rs ⟨x, ex, a, st, Hi, μ, φ, c, S, ra, e, q⟩
  subst ex
  unfold biV at e
  split at e
  · cases ra with
    | str z o l => cases e; exact call_len pins s σ H _ us Q I rs ⟨_, _, rfl, ⟨l, rfl⟩, gives_here S q (.int _)⟩
  · cases ra with
    | lst a1 a2 a3 => cases e; exact call_len pins s σ H _ us Q I rs ⟨_, _, rfl, .inl ⟨_, S.sub.seq a1, rfl⟩, by rw [← a2.length]; exact gives_here S q (.int _)⟩
  · cases ra with
    | tup a1 a2 a3 => cases e; exact call_len pins s σ H _ us Q I rs ⟨_, _, rfl, .inr ⟨_, sqT_mono S.sub a1, rfl⟩, by rw [← a2.length]; exact gives_here S q (.int _)⟩
  · cases ra; cases e; exact call_int1 pins s σ H _ us Q I rs (.inl ⟨_, rfl, gives_here S q (.int _)⟩)
  · cases ra; cases e; exact call_int1 pins s σ H _ us Q I rs (.inr ⟨_, rfl, gives_here S q (.int _)⟩)
  · cases ra with
    | lst a1 a2 a3 => cases e; exact call_tuple_of pins s σ H _ us Q I rs ⟨_, _, rfl, .inl ⟨S.sub.seq a1, gives_tup S q a2 a3⟩⟩
  · cases ra with
    | tup a1 a2 a3 => cases e; exact call_tuple_of pins s σ H _ us Q I rs ⟨_, _, rfl, .inr ⟨sqT_mono S.sub a1, gives_here S q (.tup a1 a2 a3)⟩⟩
  · cases ra with
    | lst a1 a2 a3 => cases e; exact call_list_of pins s σ H _ us Q I rs ⟨_, _, rfl, .inl (S.sub.seq a1), gives_lst S q a2 a3⟩
  · cases ra with
    | tup a1 a2 a3 => cases e; exact call_list_of pins s σ H _ us Q I rs ⟨_, _, rfl, .inr (sqT_mono S.sub a1), gives_lst S q a2 a3⟩
  · cases ra with
    | lst a1 a2 a3 =>
      cases h : boolsOf _ with
      | none => rw [h] at e; cases e
      | some bs =>
        rw [h] at e
        cases e
        exact cr_all hc pins s σ H _ us Q I rs ⟨_, bs, rfl, by rw [← boolsOf_rel a2 h]; exact S.sub.seq a1, gives_here S q (.bl _)⟩
  · cases ra with
    | lst a1 a2 a3 =>
      cases h : boolsOf _ with
      | none => rw [h] at e; cases e
      | some bs =>
        rw [h] at e
        cases e
        exact cr_any hc pins s σ H _ us Q I rs ⟨_, bs, rfl, by rw [← boolsOf_rel a2 h]; exact S.sub.seq a1, gives_here S q (.bl _)⟩
  · cases ra with
    | lst a1 a2 a3 =>
      cases h : intsOf _ with
      | none => rw [h] at e; cases e
      | some bs =>
        rw [h] at e
        cases e
        exact cr_sum hc pins s σ H _ us Q I rs ⟨_, bs, rfl, by rw [← intsOf_rel a2 h]; exact S.sub.seq a1, gives_here S q (.int _)⟩
  · cases e
end
end J
end

section
set_option maxRecDepth 100000
set_option maxHeartbeats 2000000
/-! J4: the readings of expressions. -/
namespace J
open PySem PySem.Spec PyProof.Rows L2
variable [LamT]

/-! ### syntax facts -/
def nst : Expr → Bool
  | .Starred _ _ => false
  | _ => true
def nsl : Expr → Bool
  | .Slice _ _ _ _ => false
  | _ => true
def nset : Expr → Bool
  | .Set _ _ _ => false
  | _ => true
def ncomp : Expr → Bool
  | .ListComp _ _ _ _ | .SetComp _ _ _ _ | .DictComp _ _ _ _ _ => false
  | _ => true
def plainT : Expr → Bool
  | .UnaryOp .Not _ _ => false
  | .BoolOp _ _ _ => false
  | .IfExp _ _ _ _ => false
  | .Compare _ _ _ _ => false
  | _ => true
theorem star_cons {e : Expr} {es : List Expr} {env : Env} (h : nst e = true) : starEach (e :: es) env = (false, eval e env) :: starEach es env := by
  cases e <;> first | rfl | cases h
theorem star_plain {env : Env} {pos : Pos} : ∀ {es : List Expr}, es.all nst = true → (backTo pos (starEach es env)).any (·.1) = false
  | [], _ => rfl
  | e :: es, h => by
    have h1 : nst e = true ∧ es.all nst = true := by simpa using h
    rw [star_cons h1.1]
    show (false || (backTo pos (starEach es env)).any (·.1)) = false
    rw [star_plain h1.2]; rfl
theorem plainIx_of {b : Expr} (h : nsl b = true) : PlainIx b := by
  intro o i
  cases b <;> first | rfl | cases h
theorem noset_of {e : Expr} {env : Env} (h : nset e = true) : ∀ x, foldedSetIterable e env x = pure x := by
  intro x
  cases e <;> first | rfl | cases h
theorem nbehind {op : CmpOp} {e : Expr} (h : nset e = true) : behindInMarks op e = false := by
  cases e <;> first | rfl | cases h
theorem nlast {o1 o2 : CmpOp} {b c : Expr} (h : nset c = true) : lastMarks [o1, o2] [b, c] = false := by
  show behindInMarks o2 c = false
  exact nbehind h
theorem plainT_of {e : Expr} {env : Env} (h : plainT e = true) : ∀ whole, isTrue e env whole = (do let v ← whole; standAt e.pos; holding [v] (truthy v)) := by
  intro whole
  cases e with
  | UnaryOp op x pos => cases op <;> first | rfl | cases h
  | BoolOp _ _ _ => cases h
  | IfExp _ _ _ _ => cases h
  | Compare _ _ _ _ => cases h
  | _ => rfl
theorem nswap {e : Expr} {t : Option Expr} {l : Nat} {env : Env} (h : ncomp e = true) : swapsWith e t l env = pure false := by
  cases e <;> first | rfl | cases h

section
variable {X : Cx} {xc : XC} {W : WX} {fa fb : Envr → Store → Res SV} {a b : Expr} {pos : Pos}
abbrev RE (X : Cx) (xc : XC) (W : WX) (f : Envr → Store → Res SV) : TE := rE X.K xc W f
abbrev RT (X : Cx) (xc : XC) (W : WX) (f : Envr → Store → Res Bool) : TT := rT X.K xc W f
abbrev RA (X : Cx) (xc : XC) (W : WX) (f : Envr → Store → Res (List SV)) : TA := rA X.K xc W f
/-- a reading's start -/
theorem rG_of {α β : Type} {K : PySem.W.Frag} {R : Hp → List Addr → α → β → Prop} {f : Envr → Store → Res α} {σ : L2.St} {H Hi : Hp} {Q : β → Hp → Prop} {η : Envr} {st : Store} {μ : List Addr} {φ : List (Addr × HO)}
    (he : EnvR K Hi μ η σ) (hs : Sto K st H Hi μ φ) (hp : Post K xc (fun c d H => W c d σ H) R Hi μ φ (f η st) Q) : rG K xc W R f σ H Q := ⟨η, st, Hi, μ, φ, he, hs, hp⟩
theorem rT_of {K : PySem.W.Frag} {f : Envr → Store → Res Bool} {σ : L2.St} {H Hi : Hp} {Q : Bool → Hp → Prop} {η : Envr} {st : Store} {μ : List Addr} {φ : List (Addr × HO)}
    (he : EnvR K Hi μ η σ) (hs : Sto K st H Hi μ φ) (hp : Post K xc (fun c d H => W c d σ H) (fun _ _ a b => a = b) Hi μ φ (f η st) Q) : rT K xc W f σ H Q := ⟨η, st, Hi, μ, φ, he, hs, hp⟩
/-- an answer here -/
theorem Post.here {α β : Type} {K : PySem.W.Frag} {W' : Value → Option Addr → Hp → Prop} {R : Hp → List Addr → α → β → Prop} {H Hi : Hp} {Q : β → Hp → Prop} {x : α} {z : β} {st : Store} {μ : List Addr} {φ : List (Addr × HO)}
    (h : Post K xc W' R Hi μ φ (.ok x st) Q) (hs : Sto K st H Hi μ φ) (r : R Hi μ x z) : Q z H := h z H Hi μ (Ext.refl _ _) hs r
theorem gives_of {K : PySem.W.Frag} {W' : Value → Option Addr → Hp → Prop} {Hi : Hp} {Q : VK} {c : PV} {st : Store} {μ : List Addr} {φ : List (Addr × HO)}
    (h : Post K xc W' (RpS K) Hi μ φ (.ok (.pv c) st) Q) : Gives K Hi st μ φ c Q := fun z H' Hi' e s r => h z H' Hi' μ (.of e) s r
theorem asPV_ok {x : SV} {st : Store} {v : PV} {st' : Store} (h : asPV x st = .ok v st') : x = .pv v ∧ st' = st := by
  cases x with
  | pv w => cases h; exact ⟨rfl, rfl⟩
  | ref n => cases h

/-! ### names, constants -/
theorem pe_slotJ {i : Nat} {x : Str} (hN : X.N[i]? = some x) (hv : Vis X.env.scope x) (hd : (x == ("__debug__" : Str)) = false) (hcd : (x == ("__classdict__" : Str)) = false) :
    PE X (.Name x pos) (RE X xc W (slotF i)) := by
  refine PEimp (pe_var hN hv hd hcd) fun σ H Q ⟨η, st, Hi, μ, φ, he, hs, hp⟩ => ?_
  dsimp only [slotF] at hp
  split at hp
  · rename_i y e
    obtain ⟨v, h1, h2⟩ := he.2 i y e
    exact ⟨v, h1, hp.here hs h2⟩
  · exact hp.elim
theorem pe_neverJ {e : Expr} : PE X e (RE X xc W fun _ _ => .bad) := ⟨fun _ _ _ _ _ _ ⟨_, _, _, _, _, _, _, h⟩ => h.elim⟩
theorem pe_conJ {c : Const} {j : Nat} (hk : constOk c = true) : PE X (.Constant c j pos) (RE X xc W (conF c)) := by
  cases c with
  | none => exact PEimp pe_non fun σ H Q ⟨η, st, Hi, μ, φ, he, hs, hp⟩ => hp.here hs (show RpS _ _ _ (.pv .none) .non from .non)
  | bool b => exact PEimp pe_bl fun σ H Q ⟨η, st, Hi, μ, φ, he, hs, hp⟩ => hp.here hs (show RpS _ _ _ (.pv (.bool b)) (.bl b) from .bl b)
  | int i => exact PEimp pe_int fun σ H Q ⟨η, st, Hi, μ, φ, he, hs, hp⟩ => hp.here hs (show RpS _ _ _ (.pv (.int i)) (.int i) from .int i)
  | str s =>
    unfold constOk at hk
    simp only [Bool.and_eq_true, decide_eq_true_eq] at hk
    exact PEimp pe_str fun σ H Q ⟨η, st, Hi, μ, φ, he, hs, hp⟩ => hp.here hs (show RpS _ _ _ (.pv (.str s)) (.str s) from .str s hk.1 (Nat.le_trans hk.2 line_le))
  | _ => exact pe_neverJ
theorem pe_globJ {x : Str} {y : V} {u : Value} {v : PV} (hg : Gl X x) (hm : X.mg x = some u) (r : RelV y u) (hr : ∀ H, Rp X.K H v y) (hd : (x == ("__debug__" : Str)) = false) :
    PE X (.Name x pos) (RE X xc W fun _ st => .ok (.pv v) st) :=
  PEimp (pe_glob hg hm r hd) fun σ H Q ⟨η, st, Hi, μ, φ, he, hs, hp⟩ => hp.here hs (show RpS _ _ _ (.pv v) y from hr _)

/-! ### operators -/
theorem pe_binJ (op : Operator) (ha : PE X a (RE X xc W fa)) (hb : PE X b (RE X xc W fb)) :
    PE X (.BinOp a op b pos) (RE X xc W (binF op fa fb)) := by
  refine PEimp (pe_op (op_binJ op) ha hb) fun σ H Q ⟨η, st, Hi, μ, φ, he, hs, hp⟩ => ?_
  refine rG_of he hs (hp.bind.mono fun x H1 ⟨v, st1, Hi1, μ1, e1, s1, rv, hp1⟩ => ?_)
  refine rG_of (he.mono e1) s1 (hp1.bind.mono fun y H2 ⟨w, st2, Hi2, μ2, e2, s2, rw', hp2⟩ => ?_)
  cases v with
  | ref n => exact hp2.elim
  | pv v =>
    cases w with
    | ref n => exact hp2.elim
    | pv w =>
      have hp2 : Post X.K xc _ (RpS X.K) Hi2 μ2 φ (liftV (binV op v w) st2) Q := hp2
      cases e : binV op v w with
      | none => rw [e] at hp2; exact hp2.elim
      | some c =>
        rw [e] at hp2
        exact ⟨v, w, st2, Hi2, μ2, φ, c, s2, Rp.mono e2.h rv, rw', e, gives_of hp2⟩
theorem rO_cmp {op : CmpOp} {v w : PV} {x y : V} {st : Store} {H Hi : Hp} {μ : List Addr} {φ : List (Addr × HO)} {Q : VK} {W' : Value → Option Addr → Hp → Prop} (s : Sto X.K st H Hi μ φ) (rv : Rp X.K Hi v x) (rw' : Rp X.K Hi w y)
    (hp : Post X.K xc W' (RpS X.K) Hi μ φ (liftB (cmpV op v w) st) Q) : rO X.K (bV (cmpV op)) x y H Q := by
  cases e : cmpV op v w with
  | none => rw [e] at hp; exact hp.elim
  | some c =>
    rw [e] at hp
    exact ⟨v, w, st, Hi, μ, φ, .bool c, s, rv, rw', by simp [bV, e], gives_of hp⟩
theorem cmp_start (op : CmpOp) {σ : L2.St} {H : Hp} {Q : VK} (h : RE X xc W (cmpF op fa fb) σ H Q) :
    tOp (rO X.K (bV (cmpV op))) (RE X xc W fa) (RE X xc W fb) σ H Q := by
  obtain ⟨η, st, Hi, μ, φ, he, hs, hp⟩ := h
  refine rG_of he hs (hp.bind.mono fun x H1 ⟨v, st1, Hi1, μ1, e1, s1, rv, hp1⟩ => ?_)
  refine rG_of (he.mono e1) s1 (hp1.bind.mono fun y H2 ⟨w, st2, Hi2, μ2, e2, s2, rw', hp2⟩ => ?_)
  cases v with
  | ref n => exact hp2.elim
  | pv v =>
    cases w with
    | ref n => exact hp2.elim
    | pv w => exact rO_cmp s2 (Rp.mono e2.h rv) rw' hp2
theorem pe_cmpJ (op : CmpOp) (hu : X.A.units + 64 < cLine) (ha : PE X a (RE X xc W fa)) (hb : PE X b (RE X xc W fb)) (hm : behindInMarks op b = false) :
    PE X (.Compare a [op] [b] pos) (RE X xc W (cmpF op fa fb)) :=
  PEimp (pe_cmpR (op_cmpJ op hu) ha hb hm) fun σ H Q h => cmp_start op h
/-- a truth from a reading that ends in a bool -/
theorem Post_tru {K : PySem.W.Frag} {W' : Value → Option Addr → Hp → Prop} {Hi : Hp} {μ : List Addr} {φ : List (Addr × HO)} {r : Res SV} {Q : Bool → Hp → Prop} (h : Post K xc W' (fun _ _ a b => a = b) Hi μ φ (r.bind truS) Q) :
    Post K xc W' (RpS K) Hi μ φ r (fun x H => ∃ k, TruV K x H k ∧ Q k H) := by
  refine h.bind.mono fun x H1 ⟨v, st1, Hi1, μ1, e1, s1, rv, hp1⟩ => ?_
  cases v with
  | ref n => exact hp1.elim
  | pv v =>
    cases e : truP v with
    | none => simp only [truS, e] at hp1; exact hp1.elim
    | some c =>
      simp only [truS, e] at hp1
      exact ⟨c, truV_mono s1.sub (tru_rel rv e), hp1.here s1 rfl⟩
theorem isBool {K : PySem.W.Frag} {H : Hp} {x : V} {k : Bool} (h : TruV K x H k) {b : Bool} (e : x = .bl b) : k = b := by
  subst e; exact h
theorem pt_plainJ (h : PE X a (RE X xc W fa)) (hp : plainT a = true) : PT X a (RT X xc W (tst fa)) :=
  PTimp (pt_truth h (plainT_of hp)) fun σ H Q ⟨η, st, Hi, μ, φ, he, hs, hp⟩ => rG_of he hs (Post_tru hp)
/-- for comparisons: the value is a bool, and no other -/
theorem Post_bl {K : PySem.W.Frag} {W' : Value → Option Addr → Hp → Prop} {Hi : Hp} {μ : List Addr} {φ : List (Addr × HO)} {r : Res SV} {Q : Bool → Hp → Prop} (hb : ∀ v st, r = .ok v st → ∃ b, v = .pv (.bool b)) (h : Post K xc W' (fun _ _ a b => a = b) Hi μ φ (r.bind truS) Q) :
    Post K xc W' (RpS K) Hi μ φ r (fun x H => ∃ k, x = .bl k ∧ Q k H) := by
  cases r with
  | ok v st =>
    obtain ⟨b, rfl⟩ := hb v st rfl
    intro x H' Hi' μ' e s rv
    cases rv
    exact ⟨b, rfl, h b H' Hi' μ' e s rfl⟩
  | exc e st => exact h
  | bad => exact h
theorem Res.bind_ok {α β : Type} {r : Res α} {k : α → Store → Res β} {y : β} {st' : Store} (h : r.bind k = .ok y st') : ∃ x st, r = .ok x st ∧ k x st = .ok y st' := by
  cases r with
  | ok a st => exact ⟨a, st, rfl, h⟩
  | exc e st => cases h
  | bad => cases h
theorem liftB_bl {r : Option Bool} {st : Store} {v : SV} {st' : Store} (h : liftB r st = .ok v st') : ∃ b, v = .pv (.bool b) := by
  cases r with
  | none => cases h
  | some b => cases h; exact ⟨b, rfl⟩
theorem pt_cmpJ (op : CmpOp) (hu : X.A.units + 64 < cLine) (ha : PE X a (RE X xc W fa)) (hb : PE X b (RE X xc W fb)) (hm : behindInMarks op b = false) :
    PT X (.Compare a [op] [b] pos) (RT X xc W (tst (cmpF op fa fb))) := by
  refine PTimp (pt_cmpR (op_cmpJ op hu) ha hb hm) fun σ H Q ⟨η, st, Hi, μ, φ, he, hs, hp⟩ => ?_
  refine cmp_start (xc := xc) (W := W) op (rG_of he hs (Post_bl (fun v st' h => ?_) hp))
  obtain ⟨_, _, _, h⟩ := Res.bind_ok h
  obtain ⟨_, _, _, h⟩ := Res.bind_ok h
  obtain ⟨_, _, _, h⟩ := Res.bind_ok h
  obtain ⟨_, _, _, h⟩ := Res.bind_ok h
  exact liftB_bl h
theorem chain_start (op op' : CmpOp) {fc : Envr → Store → Res SV} {σ : L2.St} {H : Hp} {Q : VK} (h : RE X xc W (chainF op op' fa fb fc) σ H Q) :
    tChain (rO X.K (bV (cmpV op))) (rO X.K (bV (cmpV op'))) (RE X xc W fa) (RE X xc W fb) (RE X xc W fc) σ H Q := by
  obtain ⟨η, st, Hi, μ, φ, he, hs, hp⟩ := h
  refine rG_of he hs (hp.bind.mono fun x H1 ⟨v, st1, Hi1, μ1, e1, s1, rv, hp1⟩ => ?_)
  refine rG_of (he.mono e1) s1 (hp1.bind.mono fun y H2 ⟨w, st2, Hi2, μ2, e2, s2, rw', hp2⟩ => ?_)
  cases v with
  | ref n => exact hp2.elim
  | pv v =>
    cases w with
    | ref n => exact hp2.elim
    | pv w =>
      simp only [asPV, Res.bind] at hp2
      cases e : cmpV op v w with
      | none => rw [e] at hp2; exact hp2.elim
      | some c =>
        rw [e] at hp2
        refine ⟨v, w, st2, Hi2, μ2, φ, .bool c, s2, Rp.mono e2.h rv, rw', by simp [bV, e], fun z H' Hi' es s' rz => ?_⟩
        cases rz
        refine ⟨c, rfl, ?_⟩
        cases c with
        | false => exact (hp2.ext (.of es)).here s' (show RpS _ _ _ (.pv (.bool false)) (.bl false) from .bl false)
        | true =>
          refine rG_of ((he.mono e1).mono (e2.trans (.of es))) s' ((hp2.ext (.of es)).bind.mono fun z H3 ⟨u, st3, Hi3, μ3, e3, s3, ru, hp3⟩ => ?_)
          cases u with
          | ref n => exact hp3.elim
          | pv u => exact rO_cmp s3 (Rp.mono e3.h (Rp.mono es rw')) ru hp3
theorem pe_chainJ (op op' : CmpOp) {c : Expr} {fc : Envr → Store → Res SV} (hu : X.A.units + 64 < cLine) (ha : PE X a (RE X xc W fa)) (hb : PE X b (RE X xc W fb)) (hc : PE X c (RE X xc W fc)) (hm : lastMarks [op, op'] [b, c] = false) :
    PE X (.Compare a [op, op'] [b, c] pos) (RE X xc W (chainF op op' fa fb fc)) :=
  PEimp (pe_chain (op_cmpJ op hu) (op_cmpJ op' hu) ha hb hc hm) fun σ H Q h => chain_start op op' h
theorem pt_chainJ (op op' : CmpOp) {c : Expr} {fc : Envr → Store → Res SV} (hu : X.A.units + 64 < cLine) (ha : PE X a (RE X xc W fa)) (hb : PE X b (RE X xc W fb)) (hc : PE X c (RE X xc W fc)) (hm : lastMarks [op, op'] [b, c] = false) :
    PT X (.Compare a [op, op'] [b, c] pos) (RT X xc W (tst (chainF op op' fa fb fc))) := by
  refine PTimp (pt_chain (op_cmpJ op hu) (op_cmpJ op' hu) ha hb hc hm) fun σ H Q ⟨η, st, Hi, μ, φ, he, hs, hp⟩ => ?_
  refine chain_start (xc := xc) (W := W) op op' (rG_of he hs (Post_bl (fun v st' h => ?_) hp))
  obtain ⟨_, _, _, h⟩ := Res.bind_ok h
  obtain ⟨_, _, _, h⟩ := Res.bind_ok h
  obtain ⟨_, _, _, h⟩ := Res.bind_ok h
  obtain ⟨_, _, _, h⟩ := Res.bind_ok h
  split at h
  · obtain ⟨_, _, _, h⟩ := Res.bind_ok h
    obtain ⟨_, _, _, h⟩ := Res.bind_ok h
    exact liftB_bl h
  · cases h; exact ⟨_, rfl⟩
  · cases h
theorem isN_start (neg : Bool) {σ : L2.St} {H : Hp} {Q : VK} (h : RE X xc W (isNF neg fa) σ H Q) : tOp (rO X.K (nonV neg)) (RE X xc W fa) (tC .non) σ H Q := by
  obtain ⟨η, st, Hi, μ, φ, he, hs, hp⟩ := h
  refine rG_of he hs (hp.bind.mono fun x H1 ⟨v, st1, Hi1, μ1, e1, s1, rv, hp1⟩ => ?_)
  cases v with
  | ref n => exact hp1.elim
  | pv v => exact ⟨v, .none, st1, Hi1, μ1, φ, _, s1, rv, .non, by simp [nonV, isNon], gives_of hp1⟩
theorem pe_isNJ (neg : Bool) {j : Nat} {p2 : Pos} (ha : PE X a (RE X xc W fa)) :
    PE X (.Compare a [if neg then .IsNot else .Is] [.Constant .none j p2] pos) (RE X xc W (isNF neg fa)) := by
  cases neg with
  | false => exact PEimp (pe_cmpR op_isJ ha pe_non rfl) fun σ H Q h => isN_start false h
  | true => exact PEimp (pe_cmpR op_isnJ ha pe_non rfl) fun σ H Q h => isN_start true h
theorem pt_isNJ (neg : Bool) {j : Nat} {p2 : Pos} (ha : PE X a (RE X xc W fa)) :
    PT X (.Compare a [if neg then .IsNot else .Is] [.Constant .none j p2] pos) (RT X xc W (tst (isNF neg fa))) := by
  have bl : ∀ η st v st', isNF neg fa η st = .ok v st' → ∃ b, v = .pv (.bool b) := fun η st v st' h => by
    obtain ⟨_, _, _, h⟩ := Res.bind_ok h
    obtain ⟨_, _, _, h⟩ := Res.bind_ok h
    cases h; exact ⟨_, rfl⟩
  cases neg with
  | false => exact PTimp (pt_cmpR op_isJ ha pe_non rfl) fun σ H Q ⟨η, st, Hi, μ, φ, he, hs, hp⟩ => isN_start (xc := xc) (W := W) false (rG_of he hs (Post_bl (bl η st) hp))
  | true => exact PTimp (pt_cmpR op_isnJ ha pe_non rfl) fun σ H Q ⟨η, st, Hi, μ, φ, he, hs, hp⟩ => isN_start (xc := xc) (W := W) true (rG_of he hs (Post_bl (bl η st) hp))
theorem pe_negJ (ha : PE X a (RE X xc W fa)) : PE X (.UnaryOp .USub a pos) (RE X xc W (negF fa)) := by
  refine PEimp (pe_un un_negJ ha) fun σ H Q ⟨η, st, Hi, μ, φ, he, hs, hp⟩ => ?_
  refine rG_of he hs (hp.bind.mono fun x H1 ⟨v, st1, Hi1, μ1, e1, s1, rv, hp1⟩ => ?_)
  cases v with
  | ref n => exact hp1.elim
  | pv v =>
    have hp1 : Post X.K xc _ (RpS X.K) Hi1 μ1 φ (liftV (negV v) st1) Q := hp1
    cases e : negV v with
    | none => rw [e] at hp1; exact hp1.elim
    | some c => rw [e] at hp1; exact ⟨v, st1, Hi1, μ1, φ, c, s1, rv, e, gives_of hp1⟩

/-! ### and, or, not, if -/
theorem tru_step {K : PySem.W.Frag} {x : V} {v : SV} {st : Store} {H Hi : Hp} {μ : List Addr} {φ : List (Addr × HO)} {W' : Value → Option Addr → Hp → Prop} {α β : Type} {R : Hp → List Addr → α → β → Prop} {k : Bool → Store → Res α} {Q : β → Hp → Prop}
    (s : Sto K st H Hi μ φ) (r : RpS K Hi μ v x) (h : Post K xc W' R Hi μ φ ((truS v st).bind k) Q) : ∃ c, truS v st = .ok c st ∧ TruV K x H c ∧ Post K xc W' R Hi μ φ (k c st) Q := by
  cases v with
  | ref n => exact h.elim
  | pv v =>
    cases e : truP v with
    | none => simp only [truS, e] at h; exact h.elim
    | some c => exact ⟨c, by simp [truS, e], truV_mono s.sub (tru_rel r e), by simp only [truS, e] at h; exact h⟩
variable {rest : List Expr}
theorem pe_andJ (ha : PE X a (RE X xc W fa)) (hb : PE X (.BoolOp .And (b :: rest) pos) (RE X xc W fb)) : PE X (.BoolOp .And (a :: b :: rest) pos) (RE X xc W (andF fa fb)) := by
  refine PEimp (pe_andT ha hb) fun σ H Q ⟨η, st, Hi, μ, φ, he, hs, hp⟩ => ?_
  refine rG_of he hs (hp.bind.mono fun x H1 ⟨v, st1, Hi1, μ1, e1, s1, rv, hp1⟩ => ?_)
  obtain ⟨c, _, t, hp2⟩ := tru_step s1 rv hp1
  refine ⟨c, t, ?_⟩
  cases c with
  | true => exact rG_of (he.mono e1) s1 hp2
  | false => exact hp2.here s1 rv
theorem pe_orJ (ha : PE X a (RE X xc W fa)) (hb : PE X (.BoolOp .Or (b :: rest) pos) (RE X xc W fb)) : PE X (.BoolOp .Or (a :: b :: rest) pos) (RE X xc W (orF fa fb)) := by
  refine PEimp (pe_orT ha hb) fun σ H Q ⟨η, st, Hi, μ, φ, he, hs, hp⟩ => ?_
  refine rG_of he hs (hp.bind.mono fun x H1 ⟨v, st1, Hi1, μ1, e1, s1, rv, hp1⟩ => ?_)
  obtain ⟨c, _, t, hp2⟩ := tru_step s1 rv hp1
  refine ⟨c, t, ?_⟩
  cases c with
  | true => exact hp2.here s1 rv
  | false => exact rG_of (he.mono e1) s1 hp2
theorem pe_notJ (ha : PE X a (RE X xc W fa)) : PE X (.UnaryOp .Not a pos) (RE X xc W (notF fa)) := by
  refine PEimp (pe_notT ha) fun σ H Q ⟨η, st, Hi, μ, φ, he, hs, hp⟩ => ?_
  refine rG_of he hs (hp.bind.mono fun x H1 ⟨v, st1, Hi1, μ1, e1, s1, rv, hp1⟩ => ?_)
  obtain ⟨c, _, t, hp2⟩ := tru_step s1 rv hp1
  exact ⟨c, t, hp2.here s1 (show RpS _ _ _ (.pv (.bool (!c))) (.bl (!c)) from .bl _)⟩
theorem tst_bind {α : Type} (r : Res SV) (k : Bool → Store → Res α) : (r.bind fun x st => (truS x st).bind k) = (r.bind truS).bind k := by
  cases r <;> rfl
theorem truS_st {x : SV} {st st' : Store} {c : Bool} (h : truS x st = .ok c st') : st' = st := by
  cases x with
  | pv v => unfold truS at h; simp only at h; split at h <;> cases h; rfl
  | ref n => cases h
theorem tst_and (η : Envr) (st : Store) : tst (andF fa fb) η st = (tst fa η st).bind fun c st => if c = true then tst fb η st else .ok false st := by
  unfold tst andF
  cases fa η st with
  | ok x st =>
    simp only [Res.bind]
    cases e : truS x st with
    | ok c st' =>
      have := truS_st e; subst this
      cases c
      · show truS x st' = _; rw [e]; rfl
      · rfl
    | exc _ _ => rfl
    | bad => rfl
  | exc _ _ => rfl
  | bad => rfl
theorem tst_or (η : Envr) (st : Store) : tst (orF fa fb) η st = (tst fa η st).bind fun c st => if c = true then .ok true st else tst fb η st := by
  unfold tst orF
  cases fa η st with
  | ok x st =>
    simp only [Res.bind]
    cases e : truS x st with
    | ok c st' =>
      have := truS_st e; subst this
      cases c
      · rfl
      · show truS x st' = _; rw [e]; rfl
    | exc _ _ => rfl
    | bad => rfl
  | exc _ _ => rfl
  | bad => rfl
theorem tst_not (η : Envr) (st : Store) : tst (notF fa) η st = (tst fa η st).bind fun c st => .ok (!c) st := by
  unfold tst notF
  cases fa η st with
  | ok x st =>
    simp only [Res.bind]
    cases e : truS x st with
    | ok c st' => rfl
    | exc _ _ => rfl
    | bad => rfl
  | exc _ _ => rfl
  | bad => rfl
theorem RT_eq {f g : Envr → Store → Res Bool} (h : ∀ η st, f η st = g η st) : RT X xc W f = RT X xc W g := by
  have : f = g := funext fun η => funext fun st => h η st
  rw [this]
theorem pw_andJ (ha : PT X a (RT X xc W (tst fa))) (hb : PW X (.BoolOp .And (b :: rest) pos) (RT X xc W (tst fb))) : PW X (.BoolOp .And (a :: b :: rest) pos) (RT X xc W (tst (andF fa fb))) := by
  have h := pw_and ha hb
  refine ⟨fun wh pins s σ H Q I hq => h.run wh pins s σ H Q I ?_⟩
  rw [RT_eq tst_and] at hq
  obtain ⟨η, st, Hi, μ, φ, he, hs, hp⟩ := hq
  refine rT_of he hs (hp.bind.mono fun x H1 ⟨v, st1, Hi1, μ1, e1, s1, rv, hp1⟩ => ?_)
  have rv : v = x := rv
  subst rv
  cases v with
  | true => exact rT_of (he.mono e1) s1 hp1
  | false => exact hp1.here s1 rfl
theorem pw_orJ (ha : PT X a (RT X xc W (tst fa))) (hb : PW X (.BoolOp .Or (b :: rest) pos) (RT X xc W (tst fb))) : PW X (.BoolOp .Or (a :: b :: rest) pos) (RT X xc W (tst (orF fa fb))) := by
  have h := pw_or ha hb
  refine ⟨fun wh pins s σ H Q I hq => h.run wh pins s σ H Q I ?_⟩
  rw [RT_eq tst_or] at hq
  obtain ⟨η, st, Hi, μ, φ, he, hs, hp⟩ := hq
  refine rT_of he hs (hp.bind.mono fun x H1 ⟨v, st1, Hi1, μ1, e1, s1, rv, hp1⟩ => ?_)
  have rv : v = x := rv
  subst rv
  cases v with
  | true => exact hp1.here s1 rfl
  | false => exact rT_of (he.mono e1) s1 hp1
theorem pt_notJ (ha : PT X a (RT X xc W (tst fa))) : PT X (.UnaryOp .Not a pos) (RT X xc W (tst (notF fa))) := by
  refine PTimp (pt_not ha) fun σ H Q hq => ?_
  rw [RT_eq tst_not] at hq
  obtain ⟨η, st, Hi, μ, φ, he, hs, hp⟩ := hq
  refine rT_of he hs (hp.bind.mono fun x H1 ⟨v, st1, Hi1, μ1, e1, s1, rv, hp1⟩ => ?_)
  have rv : v = x := rv
  subst rv
  exact hp1.here s1 rfl
theorem pe_ifJ {c : Expr} {fc : Envr → Store → Res SV} (hc : PT X c (RT X xc W (tst fc))) (ha : PE X a (RE X xc W fa)) (hb : PE X b (RE X xc W fb)) : PE X (.IfExp c a b pos) (RE X xc W (ifF fc fa fb)) := by
  refine PEimp (pe_ifExp hc ha hb) fun σ H Q ⟨η, st, Hi, μ, φ, he, hs, hp⟩ => ?_
  have hp : Post X.K xc (fun c d H => W c d σ H) (RpS X.K) Hi μ φ ((tst fc η st).bind fun c st => if c = true then fa η st else fb η st) Q := by
    have := tst_bind (fc η st) (fun c st => if c = true then fa η st else fb η st)
    show Post X.K xc (fun c d H => W c d σ H) (RpS X.K) Hi μ φ (((fc η st).bind truS).bind _) Q
    rw [← this]
    exact hp
  refine rT_of he hs (hp.bind.mono fun x H1 ⟨v, st1, Hi1, μ1, e1, s1, rv, hp1⟩ => ?_)
  have rv : v = x := rv
  subst rv
  cases v with
  | true => exact rG_of (he.mono e1) s1 hp1
  | false => exact rG_of (he.mono e1) s1 hp1

/-! ### lists of arguments, displays -/
variable {fs : Envr → Store → Res (List SV)} {e : Expr} {es : List Expr}
theorem pa_nilJ : PA X [] (RA X xc W nilF) := PAimp pa_nil fun σ H Q ⟨η, st, Hi, μ, φ, he, hs, hp⟩ => hp.here hs (.nil)
theorem pa_consJ (ha : PE X e (RE X xc W fa)) (hr : PA X es (RA X xc W fs)) (hn : nst e = true) : PA X (e :: es) (RA X xc W (consF fa fs)) := by
  refine PAimp (pa_cons ha hr (star_cons hn)) fun σ H Q ⟨η, st, Hi, μ, φ, he, hs, hp⟩ => ?_
  refine rG_of he hs (hp.bind.mono fun x H1 ⟨v, st1, Hi1, μ1, e1, s1, rv, hp1⟩ => ?_)
  refine rG_of (he.mono e1) s1 (hp1.bind.mono fun xs H2 ⟨vs, st2, Hi2, μ2, e2, s2, rvs, hp2⟩ => ?_)
  exact hp2.here s2 (.cons (rv.mono e2) rvs)
theorem asPVs_rel {K : PySem.W.Frag} {Hi : Hp} {μ : List Addr} : ∀ {xs : List SV} {vs : List V} {ps : List PV}, RpSs K Hi μ xs vs → asPVs xs = some ps → Rps K Hi ps vs
  | _, _, _, .nil, e => by cases e; exact .nil
  | .pv v :: xs, _, ps, .cons r t, e => by
    simp only [asPVs] at e
    cases q : asPVs xs with
    | none => rw [q] at e; cases e
    | some qs => rw [q] at e; cases e; exact .cons r (asPVs_rel t q)
  | .ref n :: xs, _, ps, .cons r t, e => by simp [asPVs] at e
theorem pe_tupJ {k : Nat} (h : PA X es (RA X xc W fs)) : PE X (.Tuple es k pos) (RE X xc W (tupF fs)) := by
  refine PEimp (pe_tup h) fun σ H Q ⟨η, st, Hi, μ, φ, he, hs, hp⟩ => ?_
  refine rG_of he hs (hp.bind.mono fun xs H1 ⟨vs, st1, Hi1, μ1, e1, s1, rv, hp1⟩ => ?_)
  cases q : asPVs vs with
  | none => simp only [q] at hp1; exact hp1.elim
  | some ps =>
    simp only [q] at hp1
    split at hp1
    · rename_i hl
      have r := asPVs_rel rv q
      have hl' := Nat.le_trans hl line_le
      exact ⟨by rw [← r.length]; exact hl', gives_tup s1 (gives_of hp1) r hl'⟩
    · exact hp1.elim
theorem pe_lstJ (h : PA X es (RA X xc W fs)) : PE X (.List es pos) (RE X xc W (lstF fs)) := by
  refine PEimp (pe_lst h) fun σ H Q ⟨η, st, Hi, μ, φ, he, hs, hp⟩ => ?_
  refine rG_of he hs (hp.bind.mono fun xs H1 ⟨vs, st1, Hi1, μ1, e1, s1, rv, hp1⟩ => ?_)
  cases q : asPVs vs with
  | none => simp only [q] at hp1; exact hp1.elim
  | some ps =>
    simp only [q] at hp1
    split at hp1
    · rename_i hl
      have r := asPVs_rel rv q
      have hl' := Nat.le_trans hl line_le
      exact ⟨by rw [← r.length]; exact hl', gives_lst s1 (gives_of hp1) r hl'⟩
    · exact hp1.elim
theorem pe_mlstJ (h : PA X es (RA X xc W fs)) : PE X (.List es pos) (RE X xc W (mlstF fs)) := by
  refine PEimp (pe_lst h) fun σ H Q ⟨η, st, Hi, μ, φ, he, hs, hp⟩ => ?_
  refine rG_of he hs (hp.bind.mono fun xs H1 ⟨vs, st1, Hi1, μ1, e1, s1, rv, hp1⟩ => ?_)
  cases q : asPVs vs with
  | none => simp only [q] at hp1; exact hp1.elim
  | some ps =>
    simp only [q] at hp1
    split at hp1
    · rename_i hl
      have r := asPVs_rel rv q
      have hl' := Nat.le_trans hl line_le
      refine ⟨by rw [← r.length]; exact hl', fun p hp => ?_⟩
      obtain ⟨s2, e2, g⟩ := s1.allocM hp r hl'
      exact hp1 _ _ _ _ e2 s2 ⟨p, g, rfl⟩
    · exact hp1.elim
theorem pe_frzJ (ha : PE X a (RE X xc W fa)) : PE X a (RE X xc W (frzF fa)) := by
  refine PEimp ha fun σ H Q ⟨η, st, Hi, μ, φ, he, hs, hp⟩ => ?_
  refine rG_of he hs (hp.bind.mono fun x H1 ⟨v, st1, Hi1, μ1, e1, s1, rv, hp1⟩ => ?_)
  cases v with
  | pv v => exact hp1.here s1 rv
  | ref n =>
    obtain ⟨p, h1, rfl⟩ := rv
    simp only at hp1
    cases q : st1[n]? with
    | none => rw [q] at hp1; exact hp1.elim
    | some c =>
      rw [q] at hp1
      cases c with
      | lst xs =>
        obtain ⟨Hi2, e2, s2, r2⟩ := s1.lock h1 q
        exact hp1 _ _ _ _ e2 s2 r2
      | frz v => exact hp1.here s1 (s1.cell n p _ h1 q)

/-! ### subscripts -/
theorem pe_idxJ (ha : PE X a (RE X xc W fa)) (hb : PE X b (RE X xc W fb)) (hn : nsl b = true) : PE X (.Subscript a b pos) (RE X xc W (idxF fa fb)) := by
  refine PEimp (pe_ix ix_J ha hb (plainIx_of hn)) fun σ H Q ⟨η, st, Hi, μ, φ, he, hs, hp⟩ => ?_
  refine rG_of he hs (hp.bind.mono fun x H1 ⟨v, st1, Hi1, μ1, e1, s1, rv, hp1⟩ => ?_)
  refine rG_of (he.mono e1) s1 (hp1.bind.mono fun y H2 ⟨w, st2, Hi2, μ2, e2, s2, rw', hp2⟩ => ?_)
  cases v with
  | ref n => exact hp2.elim
  | pv v =>
    cases w with
    | ref n => exact hp2.elim
    | pv w =>
      have hp2 : Post X.K xc _ (RpS X.K) Hi2 μ2 φ (liftV (idxV v w) st2) Q := hp2
      cases e : idxV v w with
      | none => rw [e] at hp2; exact hp2.elim
      | some c =>
        rw [e] at hp2
        exact ⟨v, w, st2, Hi2, μ2, φ, c, s2, Rp.mono e2.h rv, rw', e, gives_of hp2⟩
theorem pe_idxRJ (ha : PE X a (RE X xc W fa)) (hb : PE X b (RE X xc W fb)) (hn : nsl b = true) : PE X (.Subscript a b pos) (RE X xc W (idxRF fa fb)) := by
  refine PEimp (pe_ix ix_list ha hb (plainIx_of hn)) fun σ H Q ⟨η, st, Hi, μ, φ, he, hs, hp⟩ => ?_
  refine rG_of he hs (hp.bind.mono fun x H1 ⟨v, st1, Hi1, μ1, e1, s1, rv, hp1⟩ => ?_)
  refine rG_of (he.mono e1) s1 (hp1.bind.mono fun y H2 ⟨w, st2, Hi2, μ2, e2, s2, rw', hp2⟩ => ?_)
  cases w with
  | ref n => exact hp2.elim
  | pv w =>
    cases v with
    | pv v => exact hp2.elim
    | ref n =>
      obtain ⟨p, h1, rfl⟩ := rv.mono e2
      simp only [asPV, Res.bind] at hp2
      cases q : st2[n]? with
      | none => rw [q] at hp2; exact hp2.elim
      | some c =>
        rw [q] at hp2
        cases c with
        | frz v => exact hp2.elim
        | lst xs =>
          obtain ⟨q1, vs, q2, q3, q4⟩ := s2.cell n p _ h1 q
          cases w with
          | int i =>
            simp only [idxV] at hp2
            cases e : atI xs i with
            | none => rw [e] at hp2; exact hp2.elim
            | some c =>
              rw [e] at hp2
              cases rw'
              obtain ⟨z, z1, z2⟩ := atI_rel q3 e
              exact ⟨p, vs, i, z, rfl, rfl, .of q2, z1, gives_here s2 (gives_of hp2) z2⟩
          | _ => exact hp2.elim
abbrev rPO (X : Cx) (xc : XC) (W : WX) (f : Envr → Store → Res (Option Int)) : TO := rG X.K xc W (fun _ _ a b => a = b) f
theorem po_noneJ : PO X none (rPO X xc W noneF) := by
  refine ⟨fun pins s σ H Q I ⟨η, st, Hi, μ, φ, he, hs, hp⟩ => po_none.run pins s σ H Q I ?_⟩
  exact hp.here hs rfl
theorem po_someJ (ha : PE X a (RE X xc W fa)) : PO X (some a) (rPO X xc W (partF fa)) := by
  refine ⟨fun pins s σ H Q I ⟨η, st, Hi, μ, φ, he, hs, hp⟩ => (po_some ha).run pins s σ H Q I ?_⟩
  refine rG_of he hs (hp.bind.mono fun x H1 ⟨v, st1, Hi1, μ1, e1, s1, rv, hp1⟩ => ?_)
  cases v with
  | ref n => exact hp1.elim
  | pv v =>
    cases v with
    | int i => cases rv; exact ⟨i, rfl, hp1.here s1 rfl⟩
    | _ => exact hp1.elim
theorem pe_sliJ {lo hi : Option Expr} {p2 : Pos} {fl fh : Envr → Store → Res (Option Int)} (ha : PE X a (RE X xc W fa)) (hl : PO X lo (rPO X xc W fl)) (hh : PO X hi (rPO X xc W fh)) : PE X (.Subscript a (.Slice lo hi none p2) pos) (RE X xc W (sliF fa fl fh)) := by
  refine PEimp (pe_slice sl_J ha hl hh) fun σ H Q ⟨η, st, Hi, μ, φ, he, hs, hp⟩ => ?_
  refine rG_of he hs (hp.bind.mono fun x H1 ⟨v, st1, Hi1, μ1, e1, s1, rv, hp1⟩ => ?_)
  cases v with
  | ref n => exact hp1.elim
  | pv v =>
    have hp1 : Post X.K xc _ (RpS X.K) Hi1 μ1 φ ((fl η st1).bind fun l st => (fh η st).bind fun h st => liftV (sliV v l h) st) Q := hp1
    refine rG_of (he.mono e1) s1 (hp1.bind.mono fun l H2 ⟨l', st2, Hi2, μ2, e2, s2, rl, hp2⟩ => ?_)
    have rl : l' = l := rl
    subst rl
    refine rG_of ((he.mono e1).mono e2) s2 (hp2.bind.mono fun h H3 ⟨h', st3, Hi3, μ3, e3, s3, rh, hp3⟩ => ?_)
    have rh : h' = h := rh
    subst rh
    cases e : sliV v l' h' with
    | none => rw [e] at hp3; exact hp3.elim
    | some c =>
      rw [e] at hp3
      exact ⟨v, st3, Hi3, μ3, φ, c, s3, Rp.mono (e2.trans e3).h rv, e, gives_of hp3⟩

/-! ### built-in functions -/
def biN : BI → Str
  | .len => "len"
  | .int => "int"
  | .tup => "tuple"
  | .lst => "list"
  | .all => "all"
  | .any => "any"
  | .sum => "sum"
theorem Post_one {K : PySem.W.Frag} {W' : Value → Option Addr → Hp → Prop} {Hi : Hp} {μ : List Addr} {φ : List (Addr × HO)} {η : Envr} {st : Store} {Q : List V → Hp → Prop} (h : Post K xc W' (RpS K) Hi μ φ (fa η st) (fun x H => Q [x] H)) :
    Post K xc W' (RpSs K) Hi μ φ (consF fa nilF η st) Q := by
  unfold consF nilF
  cases r : fa η st with
  | bad => rw [r] at h; exact h.elim
  | exc e st => rw [r] at h; exact h
  | ok v st1 =>
    rw [r] at h
    intro xs H1 Hi1 μ1 e1 s1 rv
    cases rv with
    | cons rv t =>
      cases t
      exact h _ _ _ _ e1 s1 rv
theorem bi_start (f : BI) {σ : L2.St} {H : Hp} {Q : VK} (h : RE X xc W (biF f fa) σ H Q) : tCB (rC1 X.K (biV f)) (RA X xc W (consF fa nilF)) σ H Q := by
  obtain ⟨η, st, Hi, μ, φ, he, hs, hp⟩ := h
  refine rG_of he hs (Post_one ((Post.bind (R := RpS X.K) hp).mono fun x H1 ⟨w, st2, Hi2, μ2, e2, s2, rw', hp2⟩ => ⟨_, rfl, ?_⟩))
  cases w with
  | ref n => exact hp2.elim
  | pv w =>
    have hp2 : Post X.K xc _ (RpS X.K) Hi2 μ2 φ (liftV (biV f w) st2) Q := hp2
    cases e : biV f w with
    | none => rw [e] at hp2; exact hp2.elim
    | some c => rw [e] at hp2; exact ⟨w, st2, Hi2, μ2, φ, c, s2, rw', e, gives_of hp2⟩
theorem pe_biJ (f : BI) {p : Pos} (hc : X.calm = true) (hg : Gl X (biN f)) (hm : X.mg (biN f) = none) (ha : PE X e (RE X xc W fa)) (hn : nst e = true) : PE X (.Call (.Name (biN f) p) [e] [] pos) (RE X xc W (biF f fa)) := by
  have hA := pa_consJ ha pa_nilJ hn
  have h1 : ∀ env, starEach [e] env = (false, eval e env) :: starEach [] env := fun env => star_cons hn
  cases f with
  | len => exact PEimp (pe_callB (call_biJ .len hc) hg hm PySem.boot_len hA (by decide) (by decide) (h1 _) rfl) fun σ H Q h => bi_start .len h
  | int => exact PEimp (pe_callTy (call_biJ .int hc) hg hm PyProof.Rows.boot_int hA (by decide) (by decide) (h1 _) rfl) fun σ H Q h => bi_start .int h
  | tup => exact PEimp (pe_callTy (call_biJ .tup hc) hg hm PyProof.Rows.boot_tuple hA (by decide) (by decide) (h1 _) rfl) fun σ H Q h => bi_start .tup h
  | lst => exact PEimp (pe_callTy (call_biJ .lst hc) hg hm PyProof.Rows.boot_list hA (by decide) (by decide) (h1 _) rfl) fun σ H Q h => bi_start .lst h
  | all => exact PEimp (pe_callB (call_biJ .all hc) hg hm PyProof.Rows.boot_all hA (by decide) (by decide) (h1 _) rfl) fun σ H Q h => bi_start .all h
  | any => exact PEimp (pe_callB (call_biJ .any hc) hg hm PyProof.Rows.boot_any hA (by decide) (by decide) (h1 _) rfl) fun σ H Q h => bi_start .any h
  | sum => exact PEimp (pe_callB (call_biJ .sum hc) hg hm PyProof.Rows.boot_sum hA (by decide) (by decide) (h1 _) rfl) fun σ H Q h => bi_start .sum h
theorem pe_lenRJ {p : Pos} (hg : Gl X "len") (hm : X.mg "len" = none) (ha : PE X e (RE X xc W fa)) (hn : nst e = true) : PE X (.Call (.Name "len" p) [e] [] pos) (RE X xc W (lenRF fa)) := by
  refine PEimp (pe_callB call_len hg hm PySem.boot_len (pa_consJ ha pa_nilJ hn) (by decide) (by decide) (star_cons hn) rfl) fun σ H Q ⟨η, st, Hi, μ, φ, he, hs, hp⟩ => ?_
  refine rG_of he hs (Post_one ((Post.bind (R := RpS X.K) hp).mono fun x H1 ⟨w, st2, Hi2, μ2, e2, s2, rw', hp2⟩ => ?_))
  cases w with
  | pv n => exact hp2.elim
  | ref n =>
    obtain ⟨p, h1, rfl⟩ := rw'
    simp only at hp2
    cases q : st2[n]? with
    | none => rw [q] at hp2; exact hp2.elim
    | some c =>
      rw [q] at hp2
      cases c with
      | frz v => exact hp2.elim
      | lst xs =>
        obtain ⟨q1, vs, q2, q3, q4⟩ := s2.cell n p _ h1 q
        refine ⟨_, _, rfl, .inl ⟨vs, .of q2, rfl⟩, ?_⟩
        rw [← q3.length]
        exact hp2.here s2 (show RpS _ _ _ (.pv (.int _)) (.int _) from .int _)
/-- isinstance(x, T) -/
def isiOk (T : String) : Bool := T == "str" || T == "tuple" || T == "bool" || T == "int" || T == "list"
theorem kitB_all : ∀ T ∈ ["str", "tuple", "bool", "int", "list"], ∀ t ∈ ["NoneType", "bool", "int", "str", "list", "tuple"], kitB t T = some (t == T || (t == "bool" && T == "int")) := by decide +kernel
theorem tyX_of {K : PySem.W.Frag} {H : Hp} {v : PV} {x : V} (r : Rp K H v x) : TyX K H x (.type (tyName v)) ∧ tyName v ∈ ["NoneType", "bool", "int", "str", "list", "tuple"] := by
  cases r with
  | non => exact ⟨.base .non, by simp [tyName]⟩
  | bl b => exact ⟨.base (.bl b), by simp [tyName]⟩
  | int i => exact ⟨.base (.int i), by simp [tyName]⟩
  | str s _ _ => exact ⟨.base (.str s), by simp [tyName]⟩
  | lst h _ _ =>
    refine ⟨?_, by simp [tyName]⟩
    rcases h with (h | ⟨o, h⟩) | ⟨o, its, n, h1, h2, _⟩
    · exact .base (.lst h)
    · exact .base (.frz h)
    · exact .kList h1 h2
  | tup h _ _ =>
    refine ⟨?_, by simp [tyName]⟩
    rcases h with (h | ⟨o, h⟩) | ⟨o, its, n, h1, h2, _⟩
    · exact .base (.tup h)
    · exact .fTuple h
    · exact .kTuple h1 h2
theorem boot_ty : ∀ T ∈ ["str", "tuple", "bool", "int", "list"], bootBuiltins T = some (.type T) ∧ ((Str.ofString T) == ("__debug__" : Str)) = false ∧ (Str.ofString T) ≠ "__name__" := by decide +kernel
theorem pe_isiJ {T : String} {p p2 : Pos} (hg : Gl X "isinstance") (hm : X.mg "isinstance" = none) (hT : isiOk T = true) (hg2 : Gl X T) (hm2 : X.mg T = none) (ha : PE X e (RE X xc W fa)) (hn : nst e = true) :
    PE X (.Call (.Name "isinstance" p) [e, .Name T p2] [] pos) (RE X xc W (isiF fa T)) := by
  have hT' : T ∈ ["str", "tuple", "bool", "int", "list"] := by
    unfold isiOk at hT
    simpa [or_assoc] using hT
  obtain ⟨b1, b2, b3⟩ := boot_ty T hT'
  refine PEimp (pe_callB (e := e) (es := [.Name T p2]) call_isi hg hm PyProof.Rows.boot_isinstance (pa_cons ha (pa_cons (pe_bltn (v := .ty T) hg2 hm2 b1 rfl b3 b2) pa_nil rfl) (star_cons hn)) (by decide) (by decide) (star_cons hn) rfl) fun σ H Q ⟨η, st, Hi, μ, φ, he, hs, hp⟩ => ?_
  refine rG_of he hs (hp.bind.mono fun x H1 ⟨v, st1, Hi1, μ1, e1, s1, rv, hp1⟩ => ?_)
  cases v with
  | ref n => exact hp1.elim
  | pv v =>
    obtain ⟨t1, t2⟩ := tyX_of (Rp.mono s1.sub rv)
    refine ⟨_, _, _, _, _, rfl, .ty T, t1, kit_ty (kitB_all T hT' _ t2), ?_⟩
    exact hp1.here s1 (show RpS _ _ _ (.pv (.bool _)) (.bl _) from .bl _)

/-! ### calls -/
/-- a def's promise: what the function says -/
def spJ (K : PySem.W.Frag) (xc : XC) (n : Nat) (f : List SV → Store → Res SV) : Sp := fun vs H Q E => vs.length = n ∧ ∃ xs st Hi μ φ, Sto K st H Hi μ φ ∧ RpSs K Hi μ xs vs ∧ Post K xc (fun c d H => E c d H) (RpS K) Hi μ φ (f xs st) Q
theorem pe_callJ {x : Str} {k j : Nat} {f : Addr} {fd : FuncData} {ps : List Str} {p : Pos} {F : List SV → Store → Res SV} (hF : FnOk X.prog X.w X.K X.mg X.base (L2.CX X.prog X.w) k f fd ps (spJ X.K xc ps.length F)) (hr : Room k X.A) (hg : Gl X x) (hm : X.mg x = some (.ref f)) (hk : PySem.W.keepIn X.K (.ref f) = true)
    (hb : Binds X.K fd ps []) (tk : Takes X W) (ha : PA X (e :: es) (RA X xc W fs)) (hd : (x == ("__debug__" : Str)) = false) (hn : (e :: es).all nst = true) (hl : ∀ xs st, xs.length ≠ ps.length → F xs st = .bad) :
    PE X (.Call (.Name x p) (e :: es) [] pos) (RE X xc W (callF F fs)) := by
  have h1 : nst e = true ∧ es.all nst = true := by simpa using hn
  refine PEimp (pe_callS hF hr hg hm hk hb (fun σ => passAt tk σ) ha hd (star_cons h1.1) (star_plain h1.2)) fun σ H Q ⟨η, st, Hi, μ, φ, he, hs, hp⟩ => ?_
  refine rG_of he hs (hp.bind.mono fun xs H1 ⟨vs, st1, Hi1, μ1, e1, s1, rv, hp1⟩ => ?_)
  refine ⟨?_, vs, st1, Hi1, μ1, φ, s1, rv, hp1⟩
  rw [← rv.length]
  by_cases q : vs.length = ps.length
  · exact q
  · rw [hl _ _ q] at hp1; exact hp1.elim
end
end J
end

section
set_option maxRecDepth 100000
set_option maxHeartbeats 2000000
/-! J5: targets, what is walked, comprehensions. -/
namespace J
open PySem PySem.Spec PyProof.Rows L2
variable [LamT]

/-! ### targets -/
def setAllV (σ : L2.St) : List Nat → List V → L2.St
  | i :: is, x :: xs => setAllV (σ.set i (some x)) is xs
  | _, _ => σ
def tgV (K : PySem.W.Frag) : Tg → TG
  | .nm i => gName i
  | .tp is => fun v σ H Q => ∃ a xs, v = .ref a ∧ SqT K H a xs ∧ xs.length = is.length ∧ Q (setAllV σ is xs) H
def tgIx : Tg → List Nat
  | .nm i => [i]
  | .tp is => is
/-- names as targets, by slots -/
def visB (sc : Scope) (x : Str) : Bool := match sc.names.lookup x with
  | some .local => true
  | some .cell => true
  | some .free => true
  | _ => false
def locB (fb : Str → Bool) (sc : Scope) (x : Str) : Bool := match sc.names.lookup x with
  | some .local => true
  | some .cell => fb x
  | _ => false
def glB (sc : Scope) (x : Str) : Bool := sc.names.lookup x == some .globalImplicit
def chkNm (N : List Str) (fb : Str → Bool) (sc : Scope) (i : Nat) : Expr → Bool
  | .Name x _ => decide (N[i]? = some x) && locB fb sc x
  | _ => false
def chkNms (N : List Str) (fb : Str → Bool) (sc : Scope) : List Nat → List Expr → Bool
  | [], [] => true
  | i :: is, e :: es => chkNm N fb sc i e && chkNms N fb sc is es
  | _, _ => false
def chkTg (N : List Str) (fb : Str → Bool) (sc : Scope) : Tg → Expr → Bool
  | .nm i, e => chkNm N fb sc i e
  | .tp is, .Tuple es _ _ => chkNms N fb sc is es
  | _, _ => false

section
variable {X : Cx}
theorem loc_of {fb : Str → Bool} {sc : Scope} {x : Str} (hs : X.env.scope = sc) (hf : X.fn = fb) (h : locB fb sc x = true) : Loc X.env.scope x ∧ (X.fn x = true ∨ X.env.scope.names.lookup x = some .local) := by
  subst hs; subst hf
  unfold locB at h
  split at h
  · rename_i e; exact ⟨.inl e, .inr e⟩
  · rename_i e; exact ⟨.inr e, .inl h⟩
  · cases h
theorem vis_of {sc : Scope} {x : Str} (hs : X.env.scope = sc) (h : visB sc x = true) : Vis X.env.scope x := by
  subst hs
  unfold visB at h
  split at h
  · rename_i e; exact .inl e
  · rename_i e; exact .inr (.inl e)
  · rename_i e; exact .inr (.inr e)
  · cases h
theorem gl_of {sc : Scope} {x : Str} (hs : X.env.scope = sc) (h : glB sc x = true) : Gl X x := by
  subst hs
  exact beq_iff_eq.mp h
theorem pg_nmJ {N : List Str} {fb : Str → Bool} {sc : Scope} {i : Nat} {e : Expr} (hN : X.N = N) (nd : N.Nodup) (hs : X.env.scope = sc) (hf : X.fn = fb) (h : chkNm N fb sc i e = true) : PG X e (gName i) := by
  cases e with
  | Name x pos =>
    have h' : N[i]? = some x ∧ locB fb sc x = true := by simpa [chkNm] using h
    obtain ⟨l1, l2⟩ := loc_of hs hf h'.2
    exact pg_name (by rw [hN]; exact nd) (by rw [hN]; exact h'.1) l1 l2
  | _ => simp [chkNm] at h
def gAll : List Nat → TGs
  | [] => gNil
  | i :: is => gCons (gName i) (gAll is)
theorem pgs_nmJ {N : List Str} {fb : Str → Bool} {sc : Scope} (hN : X.N = N) (nd : N.Nodup) (hs : X.env.scope = sc) (hf : X.fn = fb) : ∀ {is : List Nat} {es : List Expr}, chkNms N fb sc is es = true →
    PGs X es (gAll is) ∧ (assignEach es X.env).length = is.length ∧ (assignEach es X.env).findIdx? (·.1) = none
  | [], [], _ => ⟨pgs_nil, rfl, rfl⟩
  | i :: is, e :: es, h => by
    have h' : chkNm N fb sc i e = true ∧ chkNms N fb sc is es = true := by simpa [chkNms] using h
    obtain ⟨p1, p2, p3⟩ := pgs_nmJ hN nd hs hf h'.2
    have p0 := pg_nmJ (X := X) hN nd hs hf h'.1
    cases e with
    | Name x pos =>
      refine ⟨pgs_cons p0 p1 rfl, ?_, ?_⟩
      · show (assignEach es X.env).length + 1 = is.length + 1
        rw [p2]
      · show List.findIdx? (·.1) ((false, assign (.Name x pos) X.env) :: assignEach es X.env) = none
        rw [List.findIdx?_cons]
        simp [p3]
    | _ => simp [chkNm] at h'
  | [], _ :: _, h => by simp [chkNms] at h
  | _ :: _, [], h => by simp [chkNms] at h
theorem gAll_of : ∀ {is : List Nat} {xs : List V} {σ : L2.St} {H : Hp} {Q : L2.St → Hp → Prop}, xs.length = is.length → Q (setAllV σ is xs) H → gAll is xs σ H Q
  | [], [], _, _, _, _, h => ⟨rfl, h⟩
  | i :: is, x :: xs, σ, H, Q, hl, h => ⟨x, xs, rfl, gAll_of (by simpa using hl) h⟩
  | [], _ :: _, _, _, _, hl, _ => by simp at hl
  | _ :: _, [], _, _, _, hl, _ => by simp at hl
theorem PGimp {e : Expr} {t u : TG} (h : PG X e t) (i : ∀ v σ H Q, u v σ H Q → t v σ H Q) : PG X e u := ⟨fun pins s σ H v w Q I r q => h.run pins s σ H v w Q I r (i _ _ _ _ q)⟩
theorem pg_tgJ {N : List Str} {fb : Str → Bool} {sc : Scope} {tg : Tg} {e : Expr} (hc : X.calm = true) (hN : X.N = N) (nd : N.Nodup) (hs : X.env.scope = sc) (hf : X.fn = fb) (h : chkTg N fb sc tg e = true) : PG X e (tgV X.K tg) := by
  cases tg with
  | nm i => exact pg_nmJ hN nd hs hf (by simpa [chkTg] using h)
  | tp is =>
    cases e with
    | Tuple es k pos =>
      obtain ⟨p1, p2, p3⟩ := pgs_nmJ (X := X) hN nd hs hf (is := is) (es := es) (by simpa [chkTg] using h)
      refine PGimp (pg_tup hc p1 p2 p3) fun v σ H Q ⟨a, xs, h1, h2, h3, h4⟩ => ⟨a, xs, h1, h2, h3, gAll_of h3 h4⟩
    | _ => simp [chkTg] at h
end
theorem envR_setAll {K : PySem.W.Frag} {Hi : Hp} {μ : List Addr} : ∀ {is : List Nat} {xs : List PV} {vs : List V} {η η' : Envr} {σ : L2.St}, setAll η is xs = some η' → EnvR K Hi μ η σ → Rps K Hi xs vs → EnvR K Hi μ η' (setAllV σ is vs)
  | [], [], _, _, _, _, h, he, .nil => by cases h; exact he
  | i :: is, x :: xs, _, η, η', σ, h, he, .cons r t => envR_setAll (is := is) (xs := xs) h (he.set (a := .pv x) r i) t
  | [], _ :: _, _, _, _, _, h, _, _ => by simp [setAll] at h
  | _ :: _, [], _, _, _, _, h, _, _ => by simp [setAll] at h
theorem setAll_len {is : List Nat} : ∀ {xs : List PV} {η η' : Envr}, setAll η is xs = some η' → xs.length = is.length := by
  induction is with
  | nil => intro xs η η' h; cases xs with
    | nil => rfl
    | cons _ _ => simp [setAll] at h
  | cons i is ih => intro xs η η' h; cases xs with
    | nil => simp [setAll] at h
    | cons x xs => simp only [setAll] at h; simp [ih h]
theorem wipe_set {σ : L2.St} {i : Nat} {v : Option V} : ∀ {vs : List Nat}, i ∈ vs → wipe (σ.set i v) vs = wipe σ vs
  | j :: vs, h => by
    unfold wipe
    by_cases hm : i ∈ vs
    · rw [wipe_set hm]
    · have e : i = j := by rcases List.mem_cons.mp h with h | h; exact h; exact absurd h hm
      subst e
      have : ∀ (ws : List Nat) (τ : L2.St), i ∉ ws → wipe (τ.set i v) ws = (wipe τ ws).set i v := by
        intro ws
        induction ws with
        | nil => intro τ _; rfl
        | cons k ws ih =>
          intro τ hk
          have hk' : i ≠ k ∧ i ∉ ws := by simpa using hk
          unfold wipe
          rw [ih τ hk'.2, List.set_comm _ _ hk'.1]
      rw [this vs σ hm, List.set_set]
theorem wipe_setAll : ∀ {is : List Nat} {xs : List V} {σ : L2.St} {vs : List Nat}, (∀ i ∈ is, i ∈ vs) → wipe (setAllV σ is xs) vs = wipe σ vs
  | [], _, _, _, _ => by unfold setAllV; rfl
  | _ :: _, [], _, _, _ => by unfold setAllV; rfl
  | i :: is, x :: xs, σ, vs, h => by
    unfold setAllV
    rw [wipe_setAll fun j hj => h j (List.mem_cons_of_mem _ hj), wipe_set (h i List.mem_cons_self)]
/-- a store into a target -/
theorem tgV_of {K : PySem.W.Frag} {Hi H : Hp} {μ : List Addr} {tg : Tg} {v : SV} {x : V} {η η' : Envr} {σ : L2.St} {Q : L2.St → Hp → Prop} (ha : asgT tg v η = some η') (he : EnvR K Hi μ η σ) (hs : Same Hi H) (r : RpS K Hi μ v x)
    (h : ∀ σ', EnvR K Hi μ η' σ' → (∀ vs, (∀ i ∈ tgIx tg, i ∈ vs) → wipe σ' vs = wipe σ vs) → Q σ' H) : tgV K tg x σ H Q := by
  cases tg with
  | nm i =>
    cases v <;> cases ha <;> exact h _ (he.set r i) fun vs hv => wipe_set (hv i (by simp [tgIx]))
  | tp is =>
    cases v with
    | ref n => simp [asgT] at ha
    | pv p =>
      cases p with
      | tuple xs =>
        have ha : setAll η is xs = some η' := ha
        cases r with
        | tup a1 a2 a3 =>
          exact ⟨_, _, rfl, sqT_mono hs a1, by rw [← a2.length]; exact setAll_len ha, h _ (envR_setAll ha he a2) fun vs hv => wipe_setAll hv⟩
      | _ => simp [asgT] at ha
theorem envR_wipe {K : PySem.W.Frag} {Hi : Hp} {μ : List Addr} {η : Envr} {σ : L2.St} (he : EnvR K Hi μ η σ) : ∀ vs : List Nat, EnvR K Hi μ (wipeJ η vs) (wipe σ vs)
  | [] => he
  | v :: vs => by
    have ih := envR_wipe he vs
    unfold wipeJ wipe
    refine ⟨by simp [ih.1], fun j b q => ?_⟩
    by_cases hj : v = j
    · subst hj
      by_cases hl : v < (wipeJ η vs).length
      · rw [List.getElem?_set_self hl] at q; cases q
      · rw [List.getElem?_eq_none (by simpa using hl)] at q; cases q
    · rw [List.getElem?_set_ne hj] at q
      obtain ⟨y, h1, h2⟩ := ih.2 j b q
      exact ⟨y, by rw [List.getElem?_set_ne hj]; exact h1, h2⟩

/-! ### what is walked -/
structure ItOk (K : PySem.W.Frag) (J : It) (items : List PV) (H0 : Hp) : Prop where
  go : ∀ (i : Nat) (H Hi : Hp) st μ φ, Same H0 Hi → Sto K st H Hi μ φ → i < items.length → J.go i H
  stop : ∀ (i : Nat) (H Hi : Hp) st μ φ, Same H0 Hi → Sto K st H Hi μ φ → items.length = i → J.stop i H
  yld : ∀ (i : Nat) (H Hi : Hp) st μ φ x H' c, Same H0 Hi → Sto K st H Hi μ φ → J.yld i H x H' → items[i]? = some c → ∃ Hi', Same Hi Hi' ∧ Sto K st H' Hi' μ φ ∧ Rp K Hi' c x
  len : items.length ≤ sizeLine
abbrev rIt (K : PySem.W.Frag) (xc : XC) (W : WX) (f : FI) : TI := rG K xc W (fun Hi _ items J => ItOk K J items Hi) f
abbrev RI (X : Cx) (xc : XC) (W : WX) (f : FI) : TI := rIt X.K xc W f
theorem PIimp {X : Cx} {tg e : Expr} {t u : TI} (h : PI X tg e t) (i : ∀ σ H Q, u σ H Q → t σ H Q) : PI X tg e u := ⟨fun pins s σ H Q I q => h.run pins s σ H Q I (i σ H Q q)⟩
theorem sq_one {K : PySem.W.Frag} {H : Hp} {a : Addr} {xs ys : List V} (h1 : SqL K H a xs) (h2 : SqL K H a ys) : True := trivial
section
variable {K : PySem.W.Frag} {Hi : Hp}
theorem it_list {a : Addr} {xs : List PV} {vs : List V} (h : SqL K Hi a vs) (r : Rps K Hi xs vs) (hl : xs.length ≤ sizeLine) : ItOk K (Itl K a) xs Hi where
  go := fun i H Hi' st μ φ e s hi => by
    have hv : i < vs.length := by rw [← r.length]; exact hi
    exact ⟨vs, vs[i], s.sub.seq (e.seq h), by simp [hv]⟩
  stop := fun i H Hi' st μ φ e s hi => ⟨vs, s.sub.seq (e.seq h), by rw [← r.length]; omega⟩
  yld := fun i H Hi' st μ φ x H' c e s y hc => by
    obtain ⟨rfl, y⟩ := y
    obtain ⟨z, z1, z2⟩ := r.get hc
    have := y vs (s.sub.seq (e.seq h))
    rw [z1] at this
    cases this
    exact ⟨Hi', Same.refl _, s, z2.mono e⟩
  len := hl
theorem it_tup {a : Addr} {xs : List PV} {vs : List V} (h : SqT K Hi a vs) (r : Rps K Hi xs vs) (hl : xs.length ≤ sizeLine) : ItOk K (Itt K a) xs Hi where
  go := fun i H Hi' st μ φ e s hi => by
    have hv : i < vs.length := by rw [← r.length]; exact hi
    exact ⟨vs, vs[i], sqT_mono s.sub (sqT_mono e h), by simp [hv]⟩
  stop := fun i H Hi' st μ φ e s hi => ⟨vs, sqT_mono s.sub (sqT_mono e h), by rw [← r.length]; omega⟩
  yld := fun i H Hi' st μ φ x H' c e s y hc => by
    obtain ⟨rfl, y⟩ := y
    obtain ⟨z, z1, z2⟩ := r.get hc
    have := y vs (sqT_mono s.sub (sqT_mono e h))
    rw [z1] at this
    cases this
    exact ⟨Hi', Same.refl _, s, z2.mono e⟩
  len := hl
theorem it_str {z : Str} (o : PyData.strOk z = true) (hl : z.length ≤ sizeLine) : ItOk K (Its z) (signs z) Hi where
  go := fun i H Hi' st μ φ e s hi => by
    have : i < z.cps.size := by simpa [signs] using hi
    exact this
  stop := fun i H Hi' st μ φ e s hi => by
    have : z.cps.size = i := by simpa [signs] using hi
    have : z.cps.size ≤ i := by omega
    exact this
  yld := fun i H Hi' st μ φ x H' c e s y hc => by
    obtain ⟨rfl, n, y1, rfl⟩ := y
    simp only [signs, List.getElem?_map, Array.getElem?_toList, y1, Option.map_some, Option.some.injEq] at hc
    subst hc
    refine ⟨Hi', Same.refl _, s, .str _ (strOk_one o ?_) one_le⟩
    exact Array.mem_toList_iff.mpr (Array.mem_of_getElem? y1)
  len := by
    have : z.cps.size ≤ sizeLine := hl
    simpa [signs] using this
theorem rngL_get (lo hi : Int) (i : Nat) : (rngL lo hi)[i]? = if i < (hi - lo).toNat then some (.int (lo + i)) else none := by
  unfold rngL
  rw [List.getElem?_map]
  by_cases h : i < (hi - lo).toNat
  · rw [List.getElem?_range h, if_pos h]; rfl
  · rw [List.getElem?_eq_none (by simpa using h), if_neg h]; rfl
theorem it_rng {lo hi : Int} (h : (hi - lo).toNat ≤ sizeLine) : ItOk K (Itr lo (hi - lo).toNat) (rngL lo hi) Hi where
  go := fun i H Hi' st μ φ e s hx => by
    have : i < (hi - lo).toNat := by unfold rngL at hx; rw [List.length_map, List.length_range] at hx; exact hx
    exact this
  stop := fun i H Hi' st μ φ e s hx => by
    have : (hi - lo).toNat ≤ i := by unfold rngL at hx; rw [List.length_map, List.length_range] at hx; omega
    exact this
  yld := fun i H Hi' st μ φ x H' c e s y hc => by
    obtain ⟨rfl, rfl⟩ := y
    rw [rngL_get] at hc
    split at hc
    · cases hc; exact ⟨Hi', Same.refl _, s, .int _⟩
    · cases hc
  len := by unfold rngL; rw [List.length_map, List.length_range]; exact h
theorem enumL_get (xs : List PV) (i : Nat) : (enumL xs)[i]? = xs[i]?.map fun x => .tuple [.int (i : Nat), x] := by
  unfold enumL
  rw [List.getElem?_map, List.getElem?_zipIdx]
  cases xs[i]? <;> simp
theorem two_le : (2 : Nat) ≤ sizeLine := by rw [sizeLine_eq]; decide
theorem it_enum {a : Addr} {xs : List PV} {vs : List V} (h : SqL K Hi a vs) (r : Rps K Hi xs vs) (hl : xs.length ≤ sizeLine) : ItOk K (Ite K a) (enumL xs) Hi where
  go := fun i H Hi' st μ φ e s hi => by
    have hv : i < vs.length := by rw [← r.length]; simpa [enumL] using hi
    exact ⟨vs, vs[i], s.sub.seq (e.seq h), by simp [hv]⟩
  stop := fun i H Hi' st μ φ e s hi => by
    have q : xs.length = i := by simpa [enumL] using hi
    exact ⟨vs, s.sub.seq (e.seq h), by rw [← r.length]; omega⟩
  yld := fun i H Hi' st μ φ x H' c e s y hc => by
    obtain ⟨T, x', rfl, hT, rfl, y⟩ := y
    rw [enumL_get] at hc
    cases hx : xs[i]? with
    | none => rw [hx] at hc; cases hc
    | some d =>
      rw [hx] at hc
      cases hc
      obtain ⟨z, z1, z2⟩ := r.get hx
      have := y vs (s.sub.seq (e.seq h))
      rw [z1] at this
      cases this
      obtain ⟨s', e'⟩ := s.alloc (o := .tup [.int (i : Nat), x']) hT
      exact ⟨_, e'.h, s', .tup (.of upd_same) (.cons (.int _) (.cons ((z2.mono e).mono e'.h) .nil)) two_le⟩
  len := by simpa [enumL] using hl
end

section
variable {X : Cx} {xc : XC} {W : WX} {fa fb : FE} {a b tg : Expr} {pos : Pos}
theorem pi_valJ (ha : PE X a (RE X xc W fa)) : PI X tg a (RI X xc W (valF fa)) := by
  refine ⟨fun pins s σ H R I ⟨η, st, Hi, μ, φ, he, hs, hp⟩ => ?_⟩
  unfold valF at hp
  cases r : fa η st with
  | bad => rw [r] at hp; exact hp.elim
  | exc e st1 =>
    rw [r] at hp
    refine (pi_list (X := X) (tg := tg) ha).run pins s σ H R I (rG_of he hs ?_)
    rw [r]; exact hp
  | ok v st1 =>
    rw [r] at hp
    cases v with
    | ref n => exact hp.elim
    | pv v =>
      cases v with
      | list xs =>
        refine (pi_list (X := X) (tg := tg) ha).run pins s σ H R I (rG_of he hs ?_)
        rw [r]
        intro x H1 Hi1 μ1 e1 s1 rv
        cases rv with
        | lst a1 a2 a3 => exact ⟨_, rfl, ⟨_, s1.sub.seq a1⟩, hp _ _ _ _ e1 s1 (it_list a1 a2 a3)⟩
      | tuple xs =>
        refine (pi_tup (X := X) (tg := tg) ha).run pins s σ H R I (rG_of he hs ?_)
        rw [r]
        intro x H1 Hi1 μ1 e1 s1 rv
        cases rv with
        | tup a1 a2 a3 => exact ⟨_, rfl, ⟨_, sqT_mono s1.sub a1⟩, hp _ _ _ _ e1 s1 (it_tup a1 a2 a3)⟩
      | str z =>
        refine (pi_str (X := X) (tg := tg) ha).run pins s σ H R I (rG_of he hs ?_)
        rw [r]
        intro x H1 Hi1 μ1 e1 s1 rv
        cases rv with
        | str _ o l => exact ⟨_, rfl, hp _ _ _ _ e1 s1 (it_str o l)⟩
      | _ => exact hp.elim
theorem rngOk_of {j : Int} (h : rngOk j = true) : -4000000 ≤ j ∧ j ≤ 4000000 := by
  unfold rngOk at h
  simpa using h
theorem pi_rngJ {p : Pos} (hg : Gl X "range") (hm : X.mg "range" = none) (ha : PE X a (RE X xc W fa)) (hn : nst a = true) : PI X tg (.Call (.Name "range" p) [a] [] pos) (RI X xc W (rngF fa)) := by
  refine PIimp (pi_range1 hg hm (pa_consJ ha pa_nilJ hn) (star_cons hn)) fun σ H R ⟨η, st, Hi, μ, φ, he, hs, hp⟩ => ?_
  refine rG_of he hs (Post_one ((Post.bind (R := RpS X.K) hp).mono fun x H1 ⟨w, st2, Hi2, μ2, e2, s2, rw', hp2⟩ => ?_))
  cases w with
  | ref n => exact hp2.elim
  | pv w =>
    cases w with
    | int j =>
      simp only [asPV, Res.bind] at hp2
      split at hp2
      · rename_i hj
        have hj' := rngOk_of hj
        cases rw'
        refine ⟨j, rfl, by omega, by omega, ?_⟩
        have q := hp2.here s2 (it_rng (lo := 0) (hi := j) (by rw [sizeLine_eq]; omega))
        simpa using q
      · exact hp2.elim
    | _ => exact hp2.elim
theorem Post_two {K : PySem.W.Frag} {W' : Value → Option Addr → Hp → Prop} {Hi : Hp} {μ : List Addr} {φ : List (Addr × HO)} {η : Envr} {st : Store} {Q : List V → Hp → Prop}
    (h : Post K xc W' (RpSs K) Hi μ φ ((fa η st).bind fun x st => (fb η st).bind fun y st => .ok [x, y] st) Q) :
    Post K xc W' (RpSs K) Hi μ φ (consF fa (consF fb nilF) η st) Q := by
  unfold consF nilF
  cases r : fa η st with
  | bad => rw [r] at h; exact h.elim
  | exc e st => rw [r] at h; exact h
  | ok v st1 =>
    rw [r] at h
    simp only [Res.bind] at h ⊢
    cases q : fb η st1 with
    | bad => rw [q] at h; exact h.elim
    | exc e st => rw [q] at h; exact h
    | ok w st2 => rw [q] at h; exact h
/-- two arguments, then what follows -/
theorem two_args {β γ : Type} {K : PySem.W.Frag} {W' : Value → Option Addr → Hp → Prop} {R : Hp → List Addr → β → γ → Prop} {Hi : Hp} {μ : List Addr} {φ : List (Addr × HO)} {η : Envr} {st : Store} {k : SV → SV → Store → Res β} {Q : γ → Hp → Prop} {Q2 : List V → Hp → Prop}
    (h : Post K xc W' R Hi μ φ ((fa η st).bind fun x st => (fb η st).bind fun y st => k x y st) Q)
    (g : ∀ v w x y st1 H1 Hi1 μ1, Ext Hi μ Hi1 μ1 → Sto K st1 H1 Hi1 μ1 φ → RpS K Hi1 μ1 v x → RpS K Hi1 μ1 w y → Post K xc W' R Hi1 μ1 φ (k v w st1) Q → Q2 [x, y] H1) :
    Post K xc W' (RpSs K) Hi μ φ (consF fa (consF fb nilF) η st) Q2 := by
  refine Post_two ?_
  cases r : fa η st with
  | bad => rw [r] at h; exact h.elim
  | exc e st => rw [r] at h; exact h
  | ok v st1 =>
    rw [r] at h
    simp only [Res.bind] at h ⊢
    cases q : fb η st1 with
    | bad => rw [q] at h; exact h.elim
    | exc e st => rw [q] at h; exact h
    | ok w st2 =>
      rw [q] at h
      intro xs H1 Hi1 μ1 e1 s1 rv
      cases rv with
      | cons r1 t => cases t with
        | cons r2 t => cases t; exact g v w _ _ _ _ _ _ e1 s1 r1 r2 (h.ext e1)
theorem pi_rng2J {p : Pos} (hg : Gl X "range") (hm : X.mg "range" = none) (ha : PE X a (RE X xc W fa)) (hb : PE X b (RE X xc W fb)) (hn : nst a = true) (hn2 : nst b = true) : PI X tg (.Call (.Name "range" p) [a, b] [] pos) (RI X xc W (rng2F fa fb)) := by
  have e1 : ∀ env, starEach [a, b] env = [(false, eval a env), (false, eval b env)] := fun env => by rw [star_cons hn, star_cons hn2]; rfl
  have e2 : ∀ env, starEach [b] env = [(false, eval b env)] := fun env => by rw [star_cons hn2]; rfl
  refine PIimp (pi_range2 hg hm (pa_consJ ha (pa_consJ hb pa_nilJ hn2) hn) (e1 _) (e2 _)) fun σ H R ⟨η, st, Hi, μ, φ, he, hs, hp⟩ => ?_
  refine rG_of he hs (two_args hp fun v w x y st1 H1 Hi1 μ1 e1 s1 rv rw' hp2 => ?_)
  cases v with
  | ref n => exact hp2.elim
  | pv v =>
    cases w with
    | ref n => exact hp2.elim
    | pv w =>
      simp only [asPV, Res.bind] at hp2
      split at hp2
      · split at hp2
        · rename_i hj
          have h1 := rngOk_of hj.1
          have h2 := rngOk_of hj.2
          cases rv; cases rw'
          exact ⟨_, _, rfl, ⟨by omega, by omega, by omega, by omega⟩, hp2.here s1 (it_rng (by rw [sizeLine_eq]; omega))⟩
        · exact hp2.elim
      · exact hp2.elim
/-! ### comprehensions -/
theorem compJ_cons {body : PV → Store → Res (Option PV)} {c : PV} {cs acc : List PV} {st : Store} {K : PySem.W.Frag} {W' : Value → Option Addr → Hp → Prop} {Hi : Hp} {μ : List Addr} {φ : List (Addr × HO)} {α β : Type} {R : Hp → List Addr → α → β → Prop} {k : List PV → Store → Res α} {Q : β → Hp → Prop}
    (h : Post K xc W' R Hi μ φ ((compJ body (c :: cs) acc st).bind k) Q) : ∃ r st', body c st = .ok r st' ∧ Post K xc W' R Hi μ φ ((compJ body cs (match r with | some y => acc ++ [y] | none => acc) st').bind k) Q := by
  unfold compJ at h
  cases e : body c st with
  | ok r st' =>
    rw [e] at h
    cases r with
    | none => exact ⟨_, _, rfl, h⟩
    | some y => exact ⟨_, _, rfl, h⟩
  | exc _ _ => rw [e] at h; exact h.elim
  | bad => rw [e] at h; exact h.elim
def finJ : List PV → Store → Res SV := fun ys st => if ys.length ≤ line then .ok (.pv (.list ys)) st else .bad
/-- the loop -/
theorem comp_core {σ : L2.St} {H1 : Hp} {Q : VK} {vs : List Nat} {Tgt : Tg} {elt : FE} {cond : Envr → Store → Res Bool} {J : It} {items : List PV} {η : Envr} {st : Store} {Hi : Hp} {μ : List Addr} {φ : List (Addr × HO)} {W' : Value → Option Addr → Hp → Prop}
    (hix : ∀ i ∈ tgIx Tgt, i ∈ vs) (he : EnvR X.K Hi μ η σ) (hs : Sto X.K st H1 Hi μ φ) (hJ : ItOk X.K J items Hi)
    (hp : Post X.K xc W' (RpS X.K) Hi μ φ ((compJ (compB elt cond Tgt vs η) items [] st).bind finJ) Q) (D : Addr) (hD : H1 D = none) :
    ∃ Wi : Nat → Nat → Hp → Prop, (∃ m, Wi 0 m (upd H1 D (.lst []))) ∧ ∀ i m H, Wi i m H →
      (J.stop i H ∧ Q (.ref D) H) ∨ (J.go i H ∧ ∃ Nx : Hp → Prop, (∀ H', Nx H' → ∃ m', m' < m ∧ Wi (i + 1) m' H') ∧ ∀ x H', J.yld i H x H' → tgV X.K Tgt x (wipe σ vs) H' fun σ2 H2 => wipe σ2 vs = wipe σ vs ∧ rT X.K xc (fun _ _ _ _ => False) cond σ2 H2 fun b H3 =>
        if b = true then rE X.K xc (fun _ _ _ _ => False) elt σ2 H3 fun y H4 => ∃ acc, H4 D = some (.lst acc) ∧ acc.length < sizeLine ∧ Nx (upd H4 D (.lst (acc ++ [y]))) else Nx H3) := by
  let P : Nat → Hp → Prop := fun i H => ∃ st' Hi' μ' acc accV, Ext Hi μ Hi' μ' ∧ Sto X.K st' H Hi' μ' ((D, .lst accV) :: φ) ∧ Rps X.K Hi' acc accV ∧ acc.length ≤ i ∧
    Post X.K xc W' (RpS X.K) Hi' μ' φ ((compJ (compB elt cond Tgt vs η) (items.drop i) acc st').bind finJ) Q
  refine ⟨fun i m H => m = items.length - i ∧ i ≤ items.length ∧ P i H, ⟨_, rfl, Nat.zero_le _, st, Hi, μ, [], [], Ext.refl _ _, hs.frame hD, .nil, Nat.zero_le _, by simpa using hp⟩, ?_⟩
  rintro i m H ⟨rfl, hi, st', Hi', μ', acc, accV, e1, s1, ra, hacc, hp1⟩
  by_cases hlt : i < items.length
  · refine .inr ⟨hJ.go i H Hi' st' μ' _ e1.h s1 hlt, P (i + 1), fun H' p => ⟨items.length - (i + 1), by omega, rfl, hlt, p⟩, fun x H' y => ?_⟩
    have hc : items[i]? = some items[i] := by simp [hlt]
    obtain ⟨Hi2, e2, s2, r2⟩ := hJ.yld i H Hi' st' μ' _ x H' _ e1.h s1 y hc
    rw [List.drop_eq_getElem_cons hlt] at hp1
    obtain ⟨r, st3, hb, hp3⟩ := compJ_cons hp1
    unfold compB at hb
    cases ha : asgT Tgt (.pv items[i]) (wipeJ η vs) with
    | none => rw [ha] at hb; cases hb
    | some η2 =>
      rw [ha] at hb
      have e02 : Ext Hi μ Hi2 μ' := e1.trans (.of e2)
      refine tgV_of ha (envR_wipe (he.mono e02) vs) s2.sub r2 fun σ2 he2 hw => ⟨?_, ?_⟩
      · rw [hw vs hix]
        have : ∀ ws : List Nat, (∀ v ∈ ws, v ∈ vs) → wipe (wipe σ vs) ws = wipe σ vs := by
          intro ws
          induction ws with
          | nil => intro _; rfl
          | cons v ws ih =>
            intro h
            show (wipe (wipe σ vs) ws).set v none = wipe σ vs
            rw [ih fun u hu => h u (List.mem_cons_of_mem _ hu)]
            have : ∀ (us : List Nat) (τ : L2.St), v ∈ us → (wipe τ us).set v none = wipe τ us := by
              intro us
              induction us with
              | nil => intro τ h; simp at h
              | cons u us ih2 =>
                intro τ h
                show ((wipe τ us).set u none).set v none = (wipe τ us).set u none
                by_cases e : u = v
                · subst e; rw [List.set_set]
                · rw [List.set_comm _ _ e, ih2 τ (by rcases List.mem_cons.mp h with h | h; exact absurd h.symm e; exact h)]
            exact this vs σ (h v List.mem_cons_self)
        exact this vs fun v h => h
      · obtain ⟨b, st4, hc1, hb2⟩ := Res.bind_ok hb
        refine rT_of he2 s2 ?_
        rw [hc1]
        intro b' H3 Hi3 μ3 e3 s3 eb
        have eb : b = b' := eb
        subst eb
        have e23 : Ext Hi' μ' Hi3 μ3 := (Ext.of e2).trans e3
        cases b with
        | false =>
          rw [if_neg (by decide)] at hb2 ⊢
          cases hb2
          exact ⟨_, Hi3, μ3, acc, accV, e1.trans e23, s3, ra.mono e23.h, by omega, hp3.ext e23⟩
        | true =>
          rw [if_pos rfl] at hb2 ⊢
          obtain ⟨y, st5, hy, hb3⟩ := Res.bind_ok hb2
          obtain ⟨v, st6, hv, hb4⟩ := Res.bind_ok hb3
          obtain ⟨rfl, rfl⟩ := asPV_ok hv
          cases hb4
          refine rG_of (he2.mono e3) s3 ?_
          rw [hy]
          intro z H4 Hi4 μ4 e4 s4 rz
          have e24 := e23.trans e4
          refine ⟨accV, (s4.fr _ List.mem_cons_self).1, ?_, ?_⟩
          · have := ra.length
            have := hJ.len
            omega
          · refine ⟨_, Hi4, μ4, acc ++ [v], accV ++ [z], e1.trans e24, s4.reframe rfl, (ra.mono e24.h).append (.cons rz .nil), ?_, hp3.ext e24⟩
            rw [List.length_append, List.length_singleton]
            omega
  · have hi' : i = items.length := by omega
    subst hi'
    refine .inl ⟨hJ.stop _ H Hi' st' μ' _ e1.h s1 rfl, ?_⟩
    rw [List.drop_length] at hp1
    unfold compJ at hp1
    simp only [Res.bind, finJ] at hp1
    split at hp1
    · rename_i hl
      obtain ⟨s2, e2⟩ := s1.unframe rfl
      exact hp1 _ _ _ _ e2 s2 (.lst (.of upd_same) (ra.mono e2.h) (Nat.le_trans hl line_le))
    · exact hp1.elim
/-- the block's own names -/
def ownOf (N : List Str) (own : List Nat) : List (Str × Nat) := own.filterMap fun i => (N[i]?).map fun x => (x, i)
theorem ownOf_ix {N : List Str} : ∀ {own : List Nat}, (∀ i ∈ own, i < N.length) → (ownOf N own).map (·.2) = own
  | [], _ => rfl
  | i :: own, h => by
    have hi := h i List.mem_cons_self
    have := ownOf_ix (N := N) (own := own) fun j hj => h j (List.mem_cons_of_mem _ hj)
    unfold ownOf at this ⊢
    rw [List.filterMap_cons]
    simp only [List.getElem?_eq_getElem hi, Option.map_some, List.map_cons]
    rw [this]
theorem tLc_of {Tgt : Tg} {elt : FE} {cond : Envr → Store → Res Bool} {it : FI} {vs : List Nat} {σ : L2.St} {H : Hp} {Q : VK} (hix : ∀ i ∈ tgIx Tgt, i ∈ vs) (h : RE X xc W (compF elt Tgt it cond vs) σ H Q) :
    tLc (RI X xc W it) (tgV X.K Tgt) (rT X.K xc (fun _ _ _ _ => False) cond) (rE X.K xc (fun _ _ _ _ => False) elt) vs σ H Q := by
  obtain ⟨η, st, Hi, μ, φ, he, hs, hp⟩ := h
  refine rG_of he hs ((Post.bind (R := fun Hi _ items J => ItOk X.K J items Hi) hp).mono fun J H1 ⟨items, st1, Hi1, μ1, e1, s1, hJ, hp1⟩ => ?_)
  exact fun D hD => comp_core (X := X) hix (he.mono e1) s1 hJ hp1 D hD
end
end J
end

section
set_option maxRecDepth 100000
set_option maxHeartbeats 2000000
/-! J6: zip of a text and a tuple; get of a dict of the module. -/
namespace J
open PySem PySem.Spec PyProof.Rows L2
variable [LamT]

/-- the signs of x beside the items of the tuple at b -/
def Itzs (K : PySem.W.Frag) (x : Str) (b : Addr) : It :=
  ⟨fun i H => i < x.cps.size ∧ ∃ (ys : List V) (y : V), SqT K H b ys ∧ ys[i]? = some y,
    fun i H v H' => ∃ T c y, v = .ref T ∧ H T = none ∧ H' = upd H T (.tup [.str ⟨#[c]⟩, y]) ∧ x.cps[i]? = some c ∧ ∀ ys, SqT K H b ys → ys[i]? = some y,
    fun i H => ∃ ys : List V, SqT K H b ys ∧ i = min x.cps.size ys.length⟩
theorem turn_zs {P : Program} {w : World} {K : PySem.W.Frag} {elts : List Expr} {kk : Nat} {tpos : Pos} {x : Str} {t : Tok} {b z TI TO i1 i2 : Addr} (S : ZipSep2 z TI TO i1 i2 [i1] [i2, b]) (hb : b ≠ i2) :
    Turn P w K (.Tuple elts kk tpos) (Itzs K x b) [z, TI, TO, i1, i2] z (fun i h => IsZip h z TI TO .none ∧ IsTupOf2 h TI (.ref i1) (.ref i2) ∧ (∃ a1 a2, IsTupOf2 h TO a1 a2) ∧ h.IsStrIter i1 (strIterType x) x t i ∧ h.IsTupleIter i2 b i) where
  mem := by simp
  obj := fun i h st c hc => by
    obtain ⟨hz, hTI, ⟨a1, a2, hTO⟩, ⟨o1, e1, _, d1⟩, ⟨o2, e2, _, d2⟩⟩ := st
    have e' : c = z ∨ c = TI ∨ c = TO ∨ c = i1 ∨ c = i2 := by simpa using hc
    rcases e' with q | q | q | q | q
    · rw [q]; exact ⟨_, hz, fun v q => nomatch q⟩
    · rw [q]; exact ⟨_, hTI, fun v q => nomatch q⟩
    · rw [q]; exact ⟨_, hTO, fun v q => nomatch q⟩
    · rw [q]; exact ⟨o1, e1, fun v q => by rw [d1] at q; cases q⟩
    · rw [q]; exact ⟨o2, e2, fun v q => by rw [d2] at q; cases q⟩
  keep := fun i h h' st k => by
    obtain ⟨hz, hTI, ⟨a1, a2, hTO⟩, ⟨o1, e1, r1⟩, h2⟩ := st
    exact ⟨k z (by simp) _ hz, k TI (by simp) _ hTI, ⟨a1, a2, k TO (by simp) _ hTO⟩, ⟨o1, k i1 (by simp) _ e1, r1⟩, h2.at fun o q => k i2 (by simp) o q⟩
  item := by
    intro X hP hw hK hc i pins s σ H E I hf st hg
    subst hP hw hK
    obtain ⟨hi, ys, y, hq, hy⟩ := hg
    obtain ⟨its, rv, p, _⟩ := I.tuple hq
    have hl := rv.length
    have hi2 : i < ys.length := (List.getElem?_eq_some_iff.mp hy).1
    have hh : X.A.in1.handled = none := I.ok.hd hc
    have G := GoesN.zip2 (prog := X.prog) (w := X.w) (A := X.A) (elts := elts) (x1 := kk) (pos := tpos) S (Draws.text hh i1 x t) (Draws.tuple hh i2 b hb its.toArray)
    obtain ⟨hz, hTI, hTO, h1, h2⟩ := st
    refine G.goes i s (fun u s2 => ∃ x_1 H', Inv X pins σ H' s2 ∧ RelV x_1 u ∧ (Itzs X.K x b).yld i H x_1 H' ∧ (IsZip s2.heap z TI TO .none ∧ IsTupOf2 s2.heap TI (.ref i1) (.ref i2) ∧ (∃ a1 a2, IsTupOf2 s2.heap TO a1 a2) ∧ s2.heap.IsStrIter i1 (strIterType x) x t (i + 1) ∧ s2.heap.IsTupleIter i2 b (i + 1)) ∧ ∀ b ∈ [z, TI, TO, i1, i2], H' b = none) E
      (by simp only [List.size_toArray]; omega) ⟨hz, hTI, hTO, h1, h2, p⟩ ?_
    rintro v h' tk ⟨T, u1, u2, rfl, hnew, ⟨c, tk1, hc1, rfl⟩, hu2, hT⟩ ⟨hz', hTI', hTO', h1', h2', p'⟩ hk htk
    obtain ⟨u, hu, ru⟩ := rv.get hy
    have hu2' : its[i]? = some u2 := by simpa using hu2
    rw [hu] at hu2'
    have e2 : u = u2 := Option.some.inj hu2'
    subst e2
    have new : ObjOk X.prog X.w (upd H T (.tup [.str ⟨#[c]⟩, y])) h' T (.tup [.str ⟨#[c]⟩, y]) :=
      ⟨two_le, [_, u], .cons ⟨_, rfl⟩ (.cons ru .nil), hT⟩
    have I1 : Inv X pins σ (upd H T (.tup [.str ⟨#[c]⟩, y])) { s with heap := h', toks := tk } :=
      I.turnedNew (ch := [z, TI, TO, i1, i2]) (fun d o hd q => hk d o (by
        have hd' : d ≠ z ∧ d ≠ TI ∧ d ≠ TO ∧ d ≠ i1 ∧ d ≠ i2 := by simpa using hd
        simp [hd'.1, hd'.2.2.1, hd'.2.2.2.1, hd'.2.2.2.2]) q) hf hnew new
    refine ⟨.ref T, _, I1, rfl, ⟨T, c, y, rfl, I.hok.fresh hnew, rfl, hc1, fun l hl => by rw [I.tuple_inj hl hq]; exact hy⟩, ⟨hz', hTI', hTO', h1', h2'⟩, fun d hd => ?_⟩
    have hlt : d < s.heap.objs.size := by
      have e' : d = z ∨ d = TI ∨ d = TO ∨ d = i1 ∨ d = i2 := by simpa using hd
      obtain ⟨a1, a2, hTO⟩ := hTO
      rcases e' with q | q | q | q | q
      · rw [q]; exact Heap.lt_size hz
      · rw [q]; exact Heap.lt_size hTI
      · rw [q]; exact Heap.lt_size hTO
      · rw [q]; obtain ⟨_, e1, _⟩ := h1; exact Heap.lt_size e1
      · rw [q]; obtain ⟨_, e2, _⟩ := h2; exact Heap.lt_size e2
    rw [upd_ne (Nat.ne_of_lt (Nat.lt_of_lt_of_le hlt hnew))]
    exact (hf d hd).1
  done := by
    intro X hP hw hK hc i pins s σ H E I hf st hg
    subst hP hw hK
    obtain ⟨ys, hq, rfl⟩ := hg
    obtain ⟨its, rv, p, _⟩ := I.tuple hq
    have hl := rv.length
    have hh : X.A.in1.handled = none := I.ok.hd hc
    have G := GoesN.zip2 (prog := X.prog) (w := X.w) (A := X.A) (elts := elts) (x1 := kk) (pos := tpos) S (Draws.text hh i1 x t) (Draws.tuple hh i2 b hb its.toArray)
    obtain ⟨hz, hTI, hTO, h1, h2⟩ := st
    have en : min x.cps.size its.toArray.size = min x.cps.size ys.length := by simp only [List.size_toArray]; omega
    refine G.stops s (fun s1 => Inv X pins σ H s1) E ?_ fun h' tk hk htk => ?_
    · rw [en]; exact ⟨hz, hTI, hTO, h1, h2, p⟩
    · exact I.turnedL (ch := [z, TI, TO, i1, i2]) (fun d o hd q => hk d o (by
        have hd' : d ≠ z ∧ d ≠ TI ∧ d ≠ TO ∧ d ≠ i1 ∧ d ≠ i2 := by simpa using hd
        simp [hd'.1, hd'.2.2.1, hd'.2.2.2.1, hd'.2.2.2.2]) q) hf
  self := fun A i s Q E st h => wpAny_pyIter_zip st.1 h

section
variable {X : Cx} {xc : XC} {W : WX} {fa fb : FE} {a b tg : Expr} {pos : Pos}
theorem zipL_get (xs ys : List PV) (i : Nat) : (zipL xs ys)[i]? = match xs[i]?, ys[i]? with
    | some x, some y => some (.tuple [x, y])
    | _, _ => none := by
  unfold zipL
  rw [List.getElem?_map, List.zip, List.getElem?_zipWith]
  cases xs[i]? <;> cases ys[i]? <;> rfl
theorem it_zs {K : PySem.W.Frag} {Hi : Hp} {z : Str} {b : Addr} {ys : List PV} {vs : List V} (o : PyData.strOk z = true) (hl : z.length ≤ sizeLine) (h : SqT K Hi b vs) (r : Rps K Hi ys vs) : ItOk K (Itzs K z b) (zipL (signs z) ys) Hi where
  go := fun i H Hi' st μ φ e s hi => by
    have hi' : i < z.cps.size ∧ i < ys.length := by
      simp only [zipL, signs, List.length_map, List.length_zip, Array.length_toList] at hi
      omega
    have hv : i < vs.length := by rw [← r.length]; exact hi'.2
    exact ⟨hi'.1, vs, vs[i], sqT_mono s.sub (sqT_mono e h), by simp [hv]⟩
  stop := fun i H Hi' st μ φ e s hi => by
    refine ⟨vs, sqT_mono s.sub (sqT_mono e h), ?_⟩
    simp only [zipL, signs, List.length_map, List.length_zip, Array.length_toList] at hi
    rw [← r.length]; omega
  yld := fun i H Hi' st μ φ x H' c e s y hc => by
    obtain ⟨T, n, y', rfl, hT, rfl, y1, y2⟩ := y
    rw [zipL_get] at hc
    have hs : (signs z)[i]? = some (.str ⟨#[n]⟩) := by
      simp only [signs, List.getElem?_map, Array.getElem?_toList, y1, Option.map_some]
    rw [hs] at hc
    cases hy : ys[i]? with
    | none => rw [hy] at hc; cases hc
    | some d =>
      rw [hy] at hc
      cases hc
      obtain ⟨w, w1, w2⟩ := r.get hy
      have := y2 vs (sqT_mono s.sub (sqT_mono e h))
      rw [w1] at this
      cases this
      obtain ⟨s', e'⟩ := s.alloc (o := .tup [.str ⟨#[n]⟩, y']) hT
      exact ⟨_, e'.h, s', .tup (.of upd_same) (.cons (.str _ (strOk_one o (Array.mem_toList_iff.mpr (Array.mem_of_getElem? y1))) one_le) (.cons ((w2.mono e).mono e'.h) .nil)) two_le⟩
  len := by
    have : z.cps.size ≤ sizeLine := hl
    simp only [zipL, signs, List.length_map, List.length_zip, Array.length_toList]
    omega
theorem pi_zipJ {elts : List Expr} {kk : Nat} {p tpos : Pos} (hg : Gl X "zip") (hm : X.mg "zip" = none) (ha : PE X a (RE X xc W fa)) (hb : PE X b (RE X xc W fb)) (hn : nst a = true) (hn2 : nst b = true) :
    PI X (.Tuple elts kk tpos) (.Call (.Name "zip" p) [a, b] [] pos) (RI X xc W (zipF fa fb)) := by
  refine ⟨fun pins s σ H R I ⟨η, st, Hi, μ, φ, he, hs, hp⟩ => ?_⟩
  have hA := pa_consJ ha (pa_consJ hb pa_nilJ hn2) hn
  refine Call_ (ld_blt I hg hm PyProof.Rows.boot_zip (PyProof.Rows.callWith_type1 (thn (hA.run pos pins s σ H (fun vs H1 => ∃ z b', vs = [.str z, .ref b'] ∧ (∃ ys, SqT X.K H1 b' ys) ∧ R (Itzs X.K z b') H1) I (rG_of he hs (two_args hp fun v w x y st1 H1 Hi1 μ1 e1 s1 rv rw' hp2 => ?_))) fun us s1 ⟨vs, H1, I1, r1, q1⟩ => ?_) (star_cons hn) (star_plain (by simp [hn2]))))
  · cases v with
    | ref n => exact hp2.elim
    | pv v =>
      cases w with
      | ref n => exact hp2.elim
      | pv w =>
        simp only [asPV, Res.bind] at hp2
        split at hp2
        · cases rv with
          | str _ o l => cases rw' with
            | tup a1 a2 a3 => exact ⟨_, _, rfl, ⟨_, sqT_mono s1.sub a1⟩, hp2.here s1 (it_zs o l a1 a2)⟩
        · exact hp2.elim
  · obtain ⟨z, b', rfl, ⟨ys, hq⟩, q⟩ := q1
    cases r1 with
    | cons r rr =>
      cases rr with
      | cons r' rr =>
        cases rr
        obtain ⟨t, rfl⟩ := r
        cases r'
        obtain ⟨its, rv, p1, _⟩ := I1.tuple hq
        obtain ⟨o1, ho1, _⟩ := id p1
        have hb' : b' < s1.heap.objs.size := Heap.lt_size ho1
        refine zip_begins2 (begins_text z t) (begins_tuple b' its.toArray) trivial p1 fun h' hz hTI hTO h1 h2 hsz hk => wpAny_pyIter_zip hz ?_
        have I2 : Inv X pins σ H1 { s1 with heap := h' } := I1.kept (t' := s1.toks) hk
        have S : ZipSep2 (s1.heap.objs.size + 4) (s1.heap.objs.size + 2) (s1.heap.objs.size + 3) s1.heap.objs.size (s1.heap.objs.size + 1) [s1.heap.objs.size] [s1.heap.objs.size + 1, b'] :=
          zip_sep2 (fp1 := []) (fp2 := [b']) (by simp) (by simpa using hb')
        refine ⟨s1.heap.objs.size + 4, [s1.heap.objs.size + 4, s1.heap.objs.size + 2, s1.heap.objs.size + 3, s1.heap.objs.size, s1.heap.objs.size + 1], _, _, H1, rfl, I2, turn_zs S (Nat.ne_of_lt (Nat.lt_succ_of_lt hb')), ⟨hz, hTI, ⟨_, _, hTO⟩, ⟨_, h1, rfl, rfl⟩, ⟨_, h2, rfl, rfl⟩⟩, fun c hcm => ?_, q⟩
        have e' : c = s1.heap.objs.size + 4 ∨ c = s1.heap.objs.size + 2 ∨ c = s1.heap.objs.size + 3 ∨ c = s1.heap.objs.size ∨ c = s1.heap.objs.size + 1 := by simpa using hcm
        have hle : s1.heap.objs.size ≤ c := by
          rcases e' with z | z | z | z | z <;> rw [z] <;> first | exact Nat.le_refl _ | exact Nat.le_add_right _ _
        exact I1.fpOk hle (I1.hok.fresh hle)
end
end J
end

section
set_option maxRecDepth 100000
set_option maxHeartbeats 2000000
namespace J
open PySem PySem.Spec PyProof.Rows L2
variable [LamT]
/-- an entry of a dict of the module -/
def EntR (K : PySem.W.Frag) (p : Str × PV) (e : DictEntry) : Prop := ∃ t x, e.key = .str p.1 t ∧ RelV x e.val ∧ ∀ H, Rp K H p.2 x
structure DicR (K : PySem.W.Frag) (w : World) (a : Addr) (d : List (Str × PV)) : Prop where
  ex : ∃ es n, K.lookup a = some ⟨.type "dict", none, .dict es n, #[]⟩ ∧ PySem.W.KeysLit w.params es.toList ∧ Paired (EntR K) d es.toList
  low : (a == sysModules) = false
theorem find_dic {K : PySem.W.Frag} : ∀ {d : List (Str × PV)} {es : List DictEntry} (z : Str), Paired (EntR K) d es →
    match d.lookup z with
    | some v => ∃ u x, (es.find? fun e => Value.isStrOf z e.key).map (·.val) = some u ∧ RelV x u ∧ ∀ H, Rp K H v x
    | none => (es.find? fun e => Value.isStrOf z e.key).map (·.val) = none
  | [], [], z, _ => rfl
  | (k, v) :: d, e :: es, z, .cons ⟨t, x, h1, h2, h3⟩ r => by
    have ih := find_dic z r
    have hk : Value.isStrOf z e.key = (z == k) := by
      rw [h1]
      by_cases q : z = k
      · subst q; simp [Value.isStrOf]
      · rw [beq_eq_false_iff_ne.mpr q]
        simp [Value.isStrOf, q, Ne.symm q]
    rw [List.lookup_cons, List.find?_cons, hk]
    cases q : z == k with
    | true => exact ⟨_, x, rfl, h2, h3⟩
    | false => exact ih
section
variable {X : Cx} {xc : XC} {W : WX} {fa : FE} {e : Expr}
theorem pe_ggetJ {g : Glb} {j : Nat} {x : Str} {a : Addr} {d : List (Str × PV)} {p apos cpos : Pos} (hd : g.dict[j]? = some d) (hg : Gl X x) (hm : X.mg x = some (.ref a)) (D : DicR X.K X.w a d) (hdb : (x == ("__debug__" : Str)) = false)
    (ha : PE X e (RE X xc W fa)) (hn : nst e = true) (hl : (apos.endLine == cpos.line) = true) : PE X (.Call (.Attribute (.Name x p) "get" apos) [e] [] cpos) (RE X xc W (ggetF g j fa)) := by
  refine ⟨fun pins s σ H Q I ⟨η, st, Hi, μ, φ, he, hs, hp⟩ => ?_⟩
  have ho : PE X (.Name x p) (tC (.ref a)) := pe_glob hg hm rfl hdb
  obtain ⟨es, n, hk, hlit, hpr⟩ := D.ex
  have trees : backTo cpos (starEach [e] X.env) = [(false, eval e X.env)] := by rw [star_cons hn]; rfl
  have few : ((backTo cpos (starEach [e] X.env)).all (fun x => !x.1) && (backToKw cpos (keywordEach [] X.env)).all (fun x => x.1.isSome)
    && decide (([e] : List Expr).length + ([] : List Keyword).length + (if ([] : List Keyword).isEmpty then 0 else 1) < 30)) = true := by rw [trees]; rfl
  refine wpAny_Call_method rfl few hl PySem.F.plainAttrs_dict PySem.F.slot_dict_get PySem.F.type_dict_get (thn (ho.run pins s σ H (fun v H1 => v = .ref a ∧ H1 = H) I ⟨rfl, rfl⟩) fun u s1 ⟨y, H1, I1, ry, ey, eH⟩ => ?_)
  subst ey eH
  obtain rfl : u = Value.ref a := ry
  have dm := PySem.W.mapOf_K (prog := X.prog) I1.kIn hk hlit
  refine ⟨dm.typeIs, fun b q => ?_, ?_⟩
  · cases q
    exact ⟨_, I1.kIn _ _ hk, rfl⟩
  rw [trees]
  refine Calls.callWith_builtin rfl (Calls.evalArgs_plain (Calls.spliced_cons (thn (ha.run pins s1 σ H1 (fun v H2 => ∃ z, v = .str z ∧ ∀ y, (match d.lookup z with
    | some v => ∀ H, Rp X.K H v y
    | none => y = .non) → Q y H2) I1 (rG_of he hs ((Post.bind (R := RpS X.K) hp).mono fun y H2 ⟨v, st2, Hi2, μ2, e2, s2, rv, hp2⟩ => ?_))) fun iv s2 ⟨y, H2, I2, ry, z, ez, q2⟩ => Calls.spliced_nil ?_)))
  · cases v with
    | ref n => exact hp2.elim
    | pv v =>
      simp only [asPV, Res.bind, hd] at hp2
      cases v with
      | str z =>
        cases rv with
        | str _ o l =>
          refine ⟨z, rfl, fun y hy => ?_⟩
          cases q : d.lookup z with
          | some v =>
            rw [q] at hy
            simp only [q] at hp2
            exact hp2.here s2 (show RpS _ _ _ (.pv v) y from hy _)
          | none =>
            rw [q] at hy
            simp only [q] at hp2
            subst hy
            exact hp2.here s2 (show RpS _ _ _ (.pv .none) .non from .non)
      | _ => exact hp2.elim
  · subst ez
    obtain ⟨t, rfl⟩ := ry
    have dm := PySem.W.mapOf_K (prog := X.prog) I2.kIn hk hlit
    refine call_meetsIn PySem.F.slot_dict_get dm.typeIs PySem.F.entry_dict_get (PySem.F.args_dict_get_2 _ _) (meets_dict_get (strKind X.prog X.w) a (strKind_is X.prog X.w z t) D.low) ⟨_, dm, ?_⟩
    have fd := find_dic z hpr
    have ef : PySem.findBy Value.isStrOf es z = (es.toList.find? fun e => Value.isStrOf z e.key).map (·.val) := by
      unfold PySem.findBy
      rw [← Array.find?_toList]
    cases q : d.lookup z with
    | some v =>
      rw [q] at fd q2
      obtain ⟨u, x', f1, f2, f3⟩ := fd
      rw [ef, f1]
      exact ⟨x', H2, I2.tok _, f2, q2 x' f3⟩
    | none =>
      rw [q] at fd q2
      rw [ef, fd]
      exact ⟨.non, H2, I2.tok _, rfl, q2 .non rfl⟩
end
end J
end

section
set_option maxRecDepth 100000
set_option maxHeartbeats 2000000
/-! J6c: enumerate of a tuple. -/
namespace J
open PySem PySem.Spec PyProof.Rows L2
variable [LamT]

/-- the items of the tuple at a, each in a new pair behind its place -/
def Itet (K : PySem.W.Frag) (a : Addr) : It :=
  ⟨fun i H => ∃ (ys : List V) (y : V), SqT K H a ys ∧ ys[i]? = some y,
    fun i H v H' => ∃ T y, v = .ref T ∧ H T = none ∧ H' = upd H T (.tup [.int (i : Nat), y]) ∧ ∀ ys, SqT K H a ys → ys[i]? = some y,
    fun i H => ∃ ys : List V, SqT K H a ys ∧ i = ys.length⟩
theorem turn_et {P : Program} {w : World} {K : PySem.W.Frag} {elts : List Expr} {kk : Nat} {tpos : Pos} {a e it : Addr} (hei : e ≠ it) (hea : e ≠ a) (hia : a ≠ it) :
    Turn P w K (.Tuple elts kk tpos) (Itet K a) [e, it] e (fun i h => (∃ old, IsEnum h e it ((i : Nat) : Int) old) ∧ h.IsTupleIter it a i) where
  mem := by simp
  obj := fun i h st b hb => by
    obtain ⟨⟨old, he⟩, ⟨o, ho, hc, hd⟩⟩ := st
    have e' : b = e ∨ b = it := by simpa using hb
    rcases e' with z | z
    · rw [z]; exact ⟨_, he, fun v q => nomatch q⟩
    · rw [z]; exact ⟨o, ho, fun v q => by rw [hd] at q; cases q⟩
  keep := fun i h h' st k => let ⟨⟨old, he⟩, hi⟩ := st; ⟨⟨old, k e (by simp) _ he⟩, hi.at fun o q => k it (by simp) o q⟩
  item := by
    intro X hP hw hK hc i pins s σ H E I hf st hg
    subst hP hw hK
    obtain ⟨ys, y, hq, hy⟩ := hg
    obtain ⟨its, rv, p, _⟩ := I.tuple hq
    have hl := rv.length
    have hi2 : i < ys.length := (List.getElem?_eq_some_iff.mp hy).1
    have hh : X.A.in1.handled = none := I.ok.hd hc
    have G := GoesN.enumFrom (prog := X.prog) (w := X.w) (A := X.A) (elts := elts) (x1 := kk) (pos := tpos) 0 (Draws.tuple hh it a hia its.toArray) e hei (by simp [hei, hea]) (by simp)
    obtain ⟨⟨old, he⟩, h2⟩ := st
    have he0 : IsEnum s.heap e it (0 + (i : Int)) old := by rw [Int.zero_add]; exact he
    refine G.goes i s (fun u s2 => ∃ x_1 H', Inv X pins σ H' s2 ∧ RelV x_1 u ∧ (Itet X.K a).yld i H x_1 H' ∧ ((∃ old, IsEnum s2.heap e it ((i + 1 : Nat) : Int) old) ∧ s2.heap.IsTupleIter it a (i + 1)) ∧ ∀ b ∈ [e, it], H' b = none) E
      (by simp only [List.size_toArray]; omega) ⟨⟨old, he0⟩, h2, p⟩ ?_
    rintro v h' tk ⟨T, tk1, u2, rfl, hnew, hu2, hT⟩ ⟨⟨old', he'⟩, h2', p'⟩ hk htk
    obtain ⟨u, hu, ru⟩ := rv.get hy
    have hu2' : its[i]? = some u2 := by simpa using hu2
    rw [hu] at hu2'
    have e2 : u = u2 := Option.some.inj hu2'
    subst e2
    rw [Int.zero_add] at hT he'
    have new : ObjOk X.prog X.w (upd H T (.tup [.int (i : Nat), y])) h' T (.tup [.int (i : Nat), y]) :=
      ⟨two_le, [_, u], .cons ⟨_, rfl⟩ (.cons ru .nil), hT⟩
    have I1 : Inv X pins σ (upd H T (.tup [.int (i : Nat), y])) { s with heap := h', toks := tk } :=
      I.turnedNew (ch := [e, it]) (fun d o hd q => hk d o (by simpa using hd) q) hf hnew new
    refine ⟨.ref T, _, I1, rfl, ⟨T, y, rfl, I.hok.fresh hnew, rfl, fun l hl => by rw [I.tuple_inj hl hq]; exact hy⟩, ⟨⟨_, he'⟩, h2'⟩, fun d hd => ?_⟩
    have hlt : d < s.heap.objs.size := by
      have e' : d = e ∨ d = it := by simpa using hd
      rcases e' with q | q
      · rw [q]; exact Heap.lt_size he
      · rw [q]; obtain ⟨_, e2, _⟩ := h2; exact Heap.lt_size e2
    rw [upd_ne (Nat.ne_of_lt (Nat.lt_of_lt_of_le hlt hnew))]
    exact (hf d hd).1
  done := by
    intro X hP hw hK hc i pins s σ H E I hf st hg
    subst hP hw hK
    obtain ⟨ys, hq, rfl⟩ := hg
    obtain ⟨its, rv, p, _⟩ := I.tuple hq
    have hl := rv.length
    have hh : X.A.in1.handled = none := I.ok.hd hc
    have G := GoesN.enumFrom (prog := X.prog) (w := X.w) (A := X.A) (elts := elts) (x1 := kk) (pos := tpos) 0 (Draws.tuple hh it a hia its.toArray) e hei (by simp [hei, hea]) (by simp)
    obtain ⟨⟨old, he⟩, h2⟩ := st
    have en : its.toArray.size = ys.length := by simp only [List.size_toArray]; omega
    refine G.stops s (fun s1 => Inv X pins σ H s1) E ?_ fun h' tk hk htk => ?_
    · rw [en]; exact ⟨⟨old, by rw [Int.zero_add]; exact he⟩, h2, p⟩
    · exact I.turnedL (ch := [e, it]) (fun d o hd q => hk d o (by simpa using hd) q) hf
  self := fun A i s Q E st h => let ⟨⟨_, he⟩, _⟩ := st; wpAny_pyIter_enum he h
theorem it_et {K : PySem.W.Frag} {Hi : Hp} {a : Addr} {ys : List PV} {vs : List V} (h : SqT K Hi a vs) (r : Rps K Hi ys vs) (hl : ys.length ≤ sizeLine) : ItOk K (Itet K a) (enumL ys) Hi where
  go := fun i H Hi' st μ φ e s hi => by
    have hv : i < vs.length := by rw [← r.length]; simpa [enumL] using hi
    exact ⟨vs, vs[i], sqT_mono s.sub (sqT_mono e h), by simp [hv]⟩
  stop := fun i H Hi' st μ φ e s hi => by
    have q : ys.length = i := by simpa [enumL] using hi
    exact ⟨vs, sqT_mono s.sub (sqT_mono e h), by rw [← r.length]; exact q.symm⟩
  yld := fun i H Hi' st μ φ x H' c e s y hc => by
    obtain ⟨T, x', rfl, hT, rfl, y⟩ := y
    rw [enumL_get] at hc
    cases hx : ys[i]? with
    | none => rw [hx] at hc; cases hc
    | some d =>
      rw [hx] at hc
      cases hc
      obtain ⟨z, z1, z2⟩ := r.get hx
      have := y vs (sqT_mono s.sub (sqT_mono e h))
      rw [z1] at this
      cases this
      obtain ⟨s', e'⟩ := s.alloc (o := .tup [.int (i : Nat), x']) hT
      exact ⟨_, e'.h, s', .tup (.of upd_same) (.cons (.int _) (.cons ((z2.mono e).mono e'.h) .nil)) two_le⟩
  len := by simpa [enumL] using hl
theorem meets_enum1 {v : Value} {o : Obj} {H : Heap → Prop} (B : Begins v o H) :
    Meets (Builtin.«enumerate.__new__» ⟨[.type "enumerate", v], []⟩) (fun _ R s => H s.heap ∧
      R (.ok (.ret (.ref (s.heap.push o).objs.size))) { s with heap := (s.heap.push o).push { cls := .type "enumerate", data := .fields #[.none, .bool false, .ref s.heap.objs.size, rawInt 0, .none, .none] } }) :=
  .of_wp fun prog w A R s h => by
    obtain ⟨hp, g, d, tk, os⟩ := s
    obtain ⟨h1, h⟩ := h
    have hsub := sub_enumerate
    have q1 : ∀ {A' : Around} {E : Value → Shared → Prop} {Q : Value → Shared → Prop}, Q (.ref hp.objs.size) ⟨hp.push o, g, d, tk, os⟩ → wpAny (model prog w) A' (pyIter v) Q E ⟨hp, g, d, tk, os⟩ :=
      fun q => B.iter prog w _ _ ⟨hp, g, d, tk, os⟩ _ h1 q
    wp_walk using q1
    refine wpAny_stack_any fun st => wpAny_pure ?_
    split
    · rename_i c _ _ _ _ _
      cases (c == Value.type "enumerate")
      · wp_walk using q1
        exact ⟨_, rfl, h⟩
      · wp_walk using q1
        exact ⟨_, rfl, h⟩
    · wp_walk using q1
      exact ⟨_, rfl, h⟩
section
variable {prog : Program} {w : World} {A : Around} {E : Value → Shared → Prop} {s : Shared}
theorem enum1_begins {v : Value} {o : Obj} {H : Heap → Prop} {Q : Value → Shared → Prop} (B : Begins v o H) (h1 : H s.heap)
    (h : ∀ h', IsEnum h' (s.heap.objs.size + 1) s.heap.objs.size 0 .none → h'.get? s.heap.objs.size = some o → h'.objs.size = s.heap.objs.size + 2 →
      (∀ b o, s.heap.get? b = some o → h'.get? b = some o) → Q (.ref (s.heap.objs.size + 1)) { s with heap := h' }) :
    wpAny (model prog w) A (call (.type "enumerate") [v]) Q E s := by
  refine callType_new F.called_enumerate (by decide) (F.typeCall_enumerate_1 _) (F.newCall_enumerate_1 _) (fun obj => F.args_object_init_2 obj _) F.entry_enumerate_new
    (meets_enum1 B) ⟨h1, ?_⟩
  have hz : (s.heap.push o).objs.size = s.heap.objs.size + 1 := Heap.size_push ..
  show _ ∧ _
  rw [hz]
  have he : IsEnum ((s.heap.push o).push { cls := .type "enumerate", data := .fields #[.none, .bool false, .ref s.heap.objs.size, rawInt 0, .none, .none] }) (s.heap.objs.size + 1) s.heap.objs.size 0 .none := by
    have := Heap.get?_push_size (s.heap.push o) (o := { cls := .type "enumerate", data := .fields #[.none, .bool false, .ref s.heap.objs.size, rawInt 0, .none, .none] }) rfl
    rw [hz] at this; exact this
  exact ⟨⟨_, he, rfl⟩, h _ he (Heap.get?_push_of_some _ (Heap.get?_push_size _ B.free)) (by rw [Heap.size_push, hz]) fun b o x => Heap.get?_push_of_some _ (Heap.get?_push_of_some _ x)⟩
end
section
variable {X : Cx} {xc : XC} {W : WX} {fa : FE} {a : Expr}
theorem pi_enumTJ {elts : List Expr} {kk : Nat} {p pos tpos : Pos} (hg : Gl X "enumerate") (hm : X.mg "enumerate" = none) (ha : PE X a (RE X xc W fa)) (hn : nst a = true) : PI X (.Tuple elts kk tpos) (.Call (.Name "enumerate" p) [a] [] pos) (RI X xc W (enumF fa)) := by
  refine ⟨fun pins s σ H R I ⟨η, st, Hi, μ, φ, he, hs, hp⟩ => ?_⟩
  unfold enumF at hp
  cases r : fa η st with
  | bad => rw [r] at hp; exact hp.elim
  | exc e st1 =>
    rw [r] at hp
    refine (pi_enum (X := X) (elts := elts) (kk := kk) (tpos := tpos) (p := p) (pos := pos) hg hm (pa_consJ ha pa_nilJ hn) (star_cons hn)).run pins s σ H R I (rG_of he hs (Post_one ?_))
    rw [r]; exact hp
  | ok v st1 =>
    rw [r] at hp
    cases v with
    | ref n => exact hp.elim
    | pv v =>
      cases v with
      | list xs =>
        refine (pi_enum (X := X) (elts := elts) (kk := kk) (tpos := tpos) (p := p) (pos := pos) hg hm (pa_consJ ha pa_nilJ hn) (star_cons hn)).run pins s σ H R I (rG_of he hs (Post_one ?_))
        rw [r]
        intro x H1 Hi1 μ1 e1 s1 rv
        cases rv with
        | lst a1 a2 a3 => exact ⟨_, _, rfl, s1.sub.seq a1, hp _ _ _ _ e1 s1 (it_enum a1 a2 a3)⟩
      | tuple xs =>
        have hA := pa_consJ ha pa_nilJ hn
        refine Call_ (ld_blt I hg hm PyProof.Rows.boot_enumerate (PyProof.Rows.callWith_type1 (thn (hA.run pos pins s σ H (fun vs H1 => ∃ b', vs = [.ref b'] ∧ (∃ ys, SqT X.K H1 b' ys) ∧ R (Itet X.K b') H1) I (rG_of he hs (Post_one ?_))) fun us s1 ⟨vs, H1, I1, r1, q1⟩ => ?_) (star_cons hn) rfl))
        · rw [r]
          intro x H1 Hi1 μ1 e1 s1 rv
          cases rv with
          | tup a1 a2 a3 => exact ⟨_, rfl, ⟨_, sqT_mono s1.sub a1⟩, hp _ _ _ _ e1 s1 (it_et a1 a2 a3)⟩
        · obtain ⟨b', rfl, ⟨ys, hq⟩, q⟩ := q1
          cases r1 with
          | cons r rr =>
            cases rr
            cases r
            obtain ⟨its, rv, p1, _⟩ := I1.tuple hq
            obtain ⟨o1, ho1, _⟩ := id p1
            have hb' : b' < s1.heap.objs.size := Heap.lt_size ho1
            refine enum1_begins (begins_tuple b' its.toArray) p1 fun h' hz h2 hsz hk => wpAny_pyIter_enum hz ?_
            have I2 : Inv X pins σ H1 { s1 with heap := h' } := I1.kept (t' := s1.toks) hk
            refine ⟨s1.heap.objs.size + 1, [s1.heap.objs.size + 1, s1.heap.objs.size], _, _, H1, rfl, I2, turn_et (Nat.succ_ne_self _) (Nat.ne_of_gt (Nat.lt_succ_of_lt hb')) (Nat.ne_of_lt hb'), ⟨⟨.none, hz⟩, ⟨_, h2, rfl, rfl⟩⟩, fun b hb => ?_, q⟩
            have e' : b = s1.heap.objs.size + 1 ∨ b = s1.heap.objs.size := by simpa using hb
            have hle : s1.heap.objs.size ≤ b := by
              rcases e' with z | z
              · rw [z]; exact Nat.le_add_right _ _
              · rw [z]; exact Nat.le_refl _
            exact I1.fpOk hle (I1.hok.fresh hle)
      | _ => exact hp.elim
end
end J
end

section
set_option maxRecDepth 100000
set_option maxHeartbeats 2000000
/-! J7: the readings of statements. -/
namespace J
open PySem PySem.Spec PyProof.Rows L2
variable [LamT]

section
variable (K : PySem.W.Frag) (xc : XC) (W : WX)
def PostS (Hi : Hp) (μ : List Addr) (φ : List (Addr × HO)) (r : RS) (D : Ends) : Prop :=
  match r with
  | .next η st => ∀ σ' H' Hi' μ', Ext Hi μ Hi' μ' → Sto K st H' Hi' μ' φ → EnvR K Hi' μ' η σ' → D.nx σ' H'
  | .ret v st => ∀ x H' Hi' μ', Ext Hi μ Hi' μ' → Sto K st H' Hi' μ' φ → RpS K Hi' μ' v x → D.rt x H'
  | .brk η st => ∀ σ' H' Hi' μ', Ext Hi μ Hi' μ' → Sto K st H' Hi' μ' φ → EnvR K Hi' μ' η σ' → D.bk σ' H'
  | .cnt η st => ∀ σ' H' Hi' μ', Ext Hi μ Hi' μ' → Sto K st H' Hi' μ' φ → EnvR K Hi' μ' η σ' → D.ct σ' H'
  | .exc e η st => ∀ σ' cls d H' Hi' μ', Ext Hi μ Hi' μ' → Sto K st H' Hi' μ' φ → EnvR K Hi' μ' η σ' → ExcR K xc e cls d Hi' → W cls d σ' H'
  | .bad => False
def rS (f : Envr → Store → RS) : TS := fun D σ H => ∃ η st Hi μ φ, EnvR K Hi μ η σ ∧ Sto K st H Hi μ φ ∧ PostS K xc W Hi μ φ (f η st) D
end
section
variable {K : PySem.W.Frag} {xc : XC} {W : WX} {Hi Hi1 H : Hp} {μ μ1 : List Addr} {φ : List (Addr × HO)} {η : Envr} {σ : L2.St} {st : Store} {D : Ends}
theorem PostS.ext {r : RS} (h : PostS K xc W Hi μ φ r D) (e0 : Ext Hi μ Hi1 μ1) : PostS K xc W Hi1 μ1 φ r D := by
  cases r with
  | next η st => exact fun σ' H' Hi' μ' e s he => h σ' H' Hi' μ' (e0.trans e) s he
  | ret v st => exact fun x H' Hi' μ' e s r => h x H' Hi' μ' (e0.trans e) s r
  | brk η st => exact fun σ' H' Hi' μ' e s he => h σ' H' Hi' μ' (e0.trans e) s he
  | cnt η st => exact fun σ' H' Hi' μ' e s he => h σ' H' Hi' μ' (e0.trans e) s he
  | exc x η st => exact fun σ' c d H' Hi' μ' e s he q => h σ' c d H' Hi' μ' (e0.trans e) s he q
  | bad => exact h
theorem PostS.thn {α β : Type} {R : Hp → List Addr → α → β → Prop} {r : Res α} {k : α → Store → RS} (he : EnvR K Hi μ η σ) (h : PostS K xc W Hi μ φ (r.thn η k) D) :
    Post K xc (fun c d H => W c d σ H) R Hi μ φ r (fun x H1 => ∃ a st Hi1 μ1, Ext Hi μ Hi1 μ1 ∧ Sto K st H1 Hi1 μ1 φ ∧ R Hi1 μ1 a x ∧ PostS K xc W Hi1 μ1 φ (k a st) D) := by
  cases r with
  | ok a st => exact fun x H' Hi' μ' e s r => ⟨a, st, Hi', μ', e, s, r, h.ext e⟩
  | exc e st => exact fun c d H' Hi' μ' e s q => h σ c d H' Hi' μ' e s (he.mono e) q
  | bad => exact h
theorem PostS.nxt {η' : Envr} (h : PostS K xc W Hi μ φ (.next η' st) D) (hs : Sto K st H Hi μ φ) (he : EnvR K Hi μ η' σ) : D.nx σ H := h σ H Hi μ (Ext.refl _ _) hs he
theorem rS_of {f : Envr → Store → RS} (he : EnvR K Hi μ η σ) (hs : Sto K st H Hi μ φ) (hp : PostS K xc W Hi μ φ (f η st) D) : rS K xc W f D σ H := ⟨η, st, Hi, μ, φ, he, hs, hp⟩
end
theorem PSimp {X : Cx} {e : Stmt} {t u : TS} (h : PS X e t) (i : ∀ D σ H, u D σ H → t D σ H) : PS X e u := ⟨fun pins s σ H D I q => h.run pins s σ H D I (i D σ H q)⟩
theorem PSsimp {X : Cx} {e : List Stmt} {t u : TS} (h : PSs X e t) (i : ∀ D σ H, u D σ H → t D σ H) : PSs X e u := ⟨fun pins s σ H D I q => h.run pins s σ H D I (i D σ H q)⟩

section
variable {X : Cx} {xc : XC} {W : WX} {fa fb fe : FE} {e : Expr} {pos : Pos} {N : List Str} {fb' : Str → Bool} {sc : Scope}
abbrev RSt (X : Cx) (xc : XC) (W : WX) (f : FS) : TS := rS X.K xc W f
theorem ps_setJ {i : Nat} {x : Str} {p : Pos} (hN : X.N.Nodup) (hi : X.N[i]? = some x) (hx : Loc X.env.scope x) (hf : X.fn x = true ∨ X.env.scope.names.lookup x = some .local) (he : PE X e (RE X xc W fe))
    (hs : swapsWith e (some (.Name x p)) pos.line X.env = pure false) : PS X (.Assign [.Name x p] e pos) (RSt X xc W (setS i fe)) := by
  refine PSimp (ps_set hN hi hx he hs hf) fun D σ H ⟨η, st, Hi, μ, φ, he, hst, hp⟩ => ?_
  refine rG_of he hst ((PostS.thn he hp).mono fun x H1 ⟨v, st1, Hi1, μ1, e1, s1, rv, hp1⟩ => ?_)
  exact hp1.nxt s1 ((he.mono e1).set rv i)
/-- name = [..] on one line -/
theorem ps_setLcJ {i : Nat} {y : Str} {py : Pos} {elt tg iter : Expr} {ifs : List Expr} {scope : Scope} {own : List (Str × Nat)} {spos : Pos} {fi : FI} {Tgt : Tg} {cond : Envr → Store → Res Bool} {felt : FE} (hc : X.calm = true) (hN : X.N.Nodup) (hy : X.N[i]? = some y) (hyl : X.env.scope.names.lookup y = some .local)
    (hsw : swapsWith (.ListComp elt [⟨tg, iter, ifs, 0⟩] scope pos) (some (.Name y py)) spos.line X.env = pure true) (hi : PI X tg iter (RI X xc W fi)) (ok : BlkOk X.N X.env.scope scope own)
    (hg : ∀ (s : Shared) (H : Hp) (C : Addr) (cl : List (Str × Addr)) (fp : List Addr), PG (X.blk s H scope (compEnvC scope cl C X.env) fp) tg (tgV X.K Tgt))
    (ht : ∀ (s : Shared) (H : Hp) (C : Addr) (cl : List (Str × Addr)) (fp : List Addr), PTs (X.blk s H scope (compEnvC scope cl C X.env) fp) ifs (rT X.K xc (fun _ _ _ _ => False) cond))
    (he : ∀ (s : Shared) (H : Hp) (C : Addr) (cl : List (Str × Addr)) (fp : List Addr), PE (X.blk s H scope (compEnvC scope cl C X.env) fp) elt (rE X.K xc (fun _ _ _ _ => False) felt)) (hs : ∀ x, foldedSetIterable iter X.env x = pure x)
    (hix : ∀ j ∈ tgIx Tgt, j ∈ own.map (·.2)) :
    PS X (.Assign [.Name y py] (.ListComp elt [⟨tg, iter, ifs, 0⟩] scope pos) spos) (RSt X xc W (setS i (compF felt Tgt fi cond (own.map (·.2))))) := by
  refine PSimp (ps_setLc hc hN hy hyl hsw hi ok hg ht he hs) fun D σ H ⟨η, st, Hi, μ, φ, he, hst, hp⟩ => ?_
  refine tLc_of hix (rG_of he hst ((PostS.thn he hp).mono fun x H1 ⟨v, st1, Hi1, μ1, e1, s1, rv, hp1⟩ => ?_))
  exact hp1.nxt s1 ((he.mono e1).set rv i)
theorem ps_setTJ {tg : Tg} {te : Expr} (hg : PG X te (tgV X.K tg)) (he : PE X e (RE X xc W fe)) (hs : swapsWithSole [te] e pos.line X.env = pure false) (hw : swappedStores [te] e X.env = pure none)
    (h1 : (assignEach [te] X.env).map (·.2) = [assign te X.env]) : PS X (.Assign [te] e pos) (RSt X xc W (setTS tg fe)) := by
  refine PSimp (ps_asg he hg hs hw h1) fun D σ H ⟨η, st, Hi, μ, φ, he, hst, hp⟩ => ?_
  refine rG_of he hst ((PostS.thn he hp).mono fun x H1 ⟨v, st1, Hi1, μ1, e1, s1, rv, hp1⟩ => ?_)
  cases ha : asgT tg v η with
  | none => rw [ha] at hp1; exact hp1.elim
  | some η' =>
    rw [ha] at hp1
    exact tgV_of ha (he.mono e1) s1.sub rv fun σ' he' _ => hp1.nxt s1 he'
theorem ps_par2J {i j : Nat} {x y : Str} {a b : Expr} {fs : Envr → Store → Res (List SV)} {px py pt : Pos} {kt k2 pt2} (hc : X.calm = true) (hN : X.N.Nodup) (hi : X.N[i]? = some x) (hj : X.N[j]? = some y) (hij : i ≠ j)
    (hx : X.env.scope.names.lookup x = some .local) (hy : X.env.scope.names.lookup y = some .local) (ha : PA X [a, b] (RA X xc W fs))
    (hw : swappedStores [.Tuple [.Name x px, .Name y py] kt pt] (.Tuple [a, b] k2 pt2) X.env = pure (some [x, y])) :
    PS X (.Assign [.Tuple [.Name x px, .Name y py] kt pt] (.Tuple [a, b] k2 pt2) pos) (RSt X xc W (parS [i, j] fs)) := by
  refine PSimp (ps_par hc hN hi hj hij hx hy ha hw) fun D σ H ⟨η, st, Hi, μ, φ, he, hst, hp⟩ => ?_
  refine rG_of he hst ((PostS.thn he hp).mono fun xs H1 ⟨vs, st1, Hi1, μ1, e1, s1, rv, hp1⟩ => ?_)
  cases rv with
  | nil => exact hp1.elim
  | cons r1 t => cases t with
    | nil => exact hp1.elim
    | cons r2 t => cases t with
      | nil => exact ⟨_, _, rfl, hp1.nxt s1 (((he.mono e1).set r1 i).set r2 j)⟩
      | cons _ _ => exact hp1.elim
theorem ps_par3J {i j l : Nat} {x y z : Str} {a b c : Expr} {fs : Envr → Store → Res (List SV)} {px py pz pt : Pos} {kt k2 pt2} (hc : X.calm = true) (hN : X.N.Nodup) (hi : X.N[i]? = some x) (hj : X.N[j]? = some y) (hl : X.N[l]? = some z) (hij : i ≠ j) (hil : i ≠ l) (hjl : j ≠ l)
    (hx : X.env.scope.names.lookup x = some .local) (hy : X.env.scope.names.lookup y = some .local) (hz : X.env.scope.names.lookup z = some .local) (ha : PA X [a, b, c] (RA X xc W fs))
    (hw : swappedStores [.Tuple [.Name x px, .Name y py, .Name z pz] kt pt] (.Tuple [a, b, c] k2 pt2) X.env = pure (some [x, y, z])) :
    PS X (.Assign [.Tuple [.Name x px, .Name y py, .Name z pz] kt pt] (.Tuple [a, b, c] k2 pt2) pos) (RSt X xc W (parS [i, j, l] fs)) := by
  refine PSimp (ps_par3 hc hN hi hj hl hij hil hjl hx hy hz ha hw) fun D σ H ⟨η, st, Hi, μ, φ, he, hst, hp⟩ => ?_
  refine rG_of he hst ((PostS.thn he hp).mono fun xs H1 ⟨vs, st1, Hi1, μ1, e1, s1, rv, hp1⟩ => ?_)
  cases rv with
  | nil => exact hp1.elim
  | cons r1 t => cases t with
    | nil => exact hp1.elim
    | cons r2 t => cases t with
      | nil => exact hp1.elim
      | cons r3 t => cases t with
        | nil => exact ⟨_, _, _, rfl, hp1.nxt s1 ((((he.mono e1).set r1 i).set r2 j).set r3 l)⟩
        | cons _ _ => exact hp1.elim
theorem ps_augJ {i : Nat} {x : Str} {p : Pos} (hN : X.N.Nodup) (hi : X.N[i]? = some x) (hx : Loc X.env.scope x) (hf : X.fn x = true ∨ X.env.scope.names.lookup x = some .local) (he : PE X e (RE X xc W fe)) :
    PS X (.AugAssign (.Name x p) .Add e pos) (RSt X xc W (augS i fe)) := by
  refine PSimp (ps_aug hN hi hx he ip_add hf) fun D σ H ⟨η, st, Hi, μ, φ, he, hst, hp⟩ => ?_
  unfold augS at hp
  split at hp
  · rename_i a ha
    obtain ⟨v, h1, h2⟩ := he.2 i _ ha
    cases h2
    refine ⟨_, h1, rG_of he hst ((PostS.thn he hp).mono fun x H1 ⟨v, st1, Hi1, μ1, e1, s1, rv, hp1⟩ => ?_)⟩
    split at hp1
    · cases rv
      exact ⟨_, _, rfl, rfl, hp1.nxt s1 ((he.mono e1).set (a := .pv (.int _)) (show RpS _ _ _ (.pv (.int _)) (.int _) from .int _) i)⟩
    · exact hp1.elim
  · exact hp.elim
theorem ps_stoJ {o i : Expr} {p : Pos} {fi : FE} (ho : PE X o (RE X xc W fa)) (hi : PE X i (RE X xc W fi)) (he : PE X e (RE X xc W fe)) (hn : nsl i = true) (hs : swapsWithSole [.Subscript o i p] e pos.line X.env = pure false) :
    PS X (.Assign [.Subscript o i p] e pos) (RSt X xc W (stoS fa fi fe)) := by
  have ha : ∀ v, assign (.Subscript o i p) X.env v = (do
      let ov ← holding [v] (eval o X.env)
      let iv ← holding [v, ov] (eval i X.env)
      standAt p
      holding [v, ov, iv] (setItem ov iv v)
      release [v, ov, iv] []) := by
    intro v
    cases i <;> first | rfl | cases hn
  refine PSimp (ps_asg he (pg_sub ho hi set_list ha) hs rfl rfl) fun D σ H ⟨η, st, Hi, μ, φ, he, hst, hp⟩ => ?_
  refine rG_of he hst ((PostS.thn he hp).mono fun z H1 ⟨zv, st1, Hi1, μ1, e1, s1, rz, hp1⟩ => ?_)
  have he1 := he.mono e1
  refine rG_of he1 s1 ((PostS.thn he1 hp1).mono fun x H2 ⟨xv, st2, Hi2, μ2, e2, s2, rx, hp2⟩ => ?_)
  have he2 := he1.mono e2
  refine rG_of he2 s2 ((PostS.thn he2 hp2).mono fun y H3 ⟨yv, st3, Hi3, μ3, e3, s3, ry, hp3⟩ => ?_)
  have he3 := he2.mono e3
  cases xv with
  | pv _ => exact hp3.elim
  | ref n =>
    cases yv with
    | ref _ => exact hp3.elim
    | pv w =>
      cases w with
      | int k =>
        cases zv with
        | ref _ => exact hp3.elim
        | pv v =>
          simp only at hp3
          split at hp3
          · rename_i xs hxs
            split at hp3
            · rename_i j hj
              obtain ⟨a, ha1, rfl⟩ := rx.mono e3
              cases ry
              obtain ⟨q1, vs, q2, q3, q4⟩ := s3.cell n a _ ha1 hxs
              have rv := (rz.mono e2).mono e3
              refine ⟨a, vs, k, j, rfl, rfl, q2, by rw [← q3.length]; exact hj, ?_⟩
              exact hp3.nxt (s3.put ha1 hxs (q3.set rv j) (by rw [List.length_set]; exact q4)) he3
            · exact hp3.elim
          · exact hp3.elim
      | _ => exact hp3.elim
theorem ps_appJ {o : Expr} {ap cp : Pos} (ho : PE X o (RE X xc W fa)) (he : PE X e (RE X xc W fe)) (hn : nst e = true) (hb : attributeBase o "append" X.env (eval o X.env) = eval o X.env) (hl : (ap.endLine == cp.line) = true) :
    PS X (.Expr (.Call (.Attribute o "append" ap) [e] [] cp) pos) (RSt X xc W (appS fa fe)) := by
  have h1 : ∀ env, starEach [e] env = (false, eval e env) :: starEach [] env := fun env => star_cons hn
  have hf : ((backTo cp (starEach [e] X.env)).all (fun x => !x.1) && (backToKw cp (keywordEach [] X.env)).all (fun x => x.1.isSome)
      && decide (([e] : List Expr).length + ([] : List Keyword).length + (if ([] : List Keyword).isEmpty then 0 else 1) < 30)) = true := by
    rw [h1]; rfl
  refine PSimp (ps_expr (pe_bm PySem.F.plainAttrs_list PySem.F.slot_list_append PySem.F.type_list_append mt_append ho (pa_consJ he pa_nilJ hn) hb hf hl (h1 _) rfl)) fun D σ H ⟨η, st, Hi, μ, φ, he, hst, hp⟩ => ?_
  refine rG_of he hst ((PostS.thn he hp).mono fun x H1 ⟨xv, st1, Hi1, μ1, e1, s1, rx, hp1⟩ => ?_)
  have he1 := he.mono e1
  split at hp1
  · rename_i n
    split at hp1
    · rename_i ys hys
      obtain ⟨a, ha1, rfl⟩ := rx
      obtain ⟨q1, vs, q2, q3, q4⟩ := s1.cell n a _ ha1 hys
      refine ⟨.inl ⟨rfl, vs, .of q2⟩, rG_of he1 s1 (Post_one ((PostS.thn he1 hp1).mono fun z H2 ⟨zv, st2, Hi2, μ2, e2, s2, rz, hp2⟩ => ?_))⟩
      split at hp2
      · rename_i v
        split at hp2
        · rename_i xs hxs
          split at hp2
          · rename_i hlt
            obtain ⟨q1, vs, q2, q3, q4⟩ := s2.cell n a _ (e2.get ha1) hxs
            have hlt2 := Nat.lt_of_lt_of_le hlt line_le
            refine ⟨a, vs, z, rfl, rfl, q2, by rw [← q3.length]; exact hlt2, ?_⟩
            exact hp2.nxt (s2.put (e2.get ha1) hxs (q3.append (.cons rz .nil)) (by rw [List.length_append, List.length_singleton]; omega)) (he1.mono e2)
          · exact hp2.elim
        · exact hp2.elim
      · exact hp2.elim
    · exact hp1.elim
  · exact hp1.elim
theorem ps_dropJ (he : PE X e (RE X xc W fe)) (hs : swapsWith e none pos.line X.env = pure false) : PS X (.Expr e pos) (RSt X xc W (dropS fe)) := by
  refine PSimp (ps_expr he hs) fun D σ H ⟨η, st, Hi, μ, φ, he, hst, hp⟩ => ?_
  exact rG_of he hst ((PostS.thn he hp).mono fun x H1 ⟨v, st1, Hi1, μ1, e1, s1, rv, hp1⟩ => hp1.nxt s1 (he.mono e1))
theorem ps_retJ (he : PE X e (RE X xc W fe)) : PS X (.Return (some e) pos) (RSt X xc W (retS fe)) := by
  refine PSimp (ps_ret he) fun D σ H ⟨η, st, Hi, μ, φ, he, hst, hp⟩ => ?_
  exact rG_of he hst ((PostS.thn he hp).mono fun x H1 ⟨v, st1, Hi1, μ1, e1, s1, rv, hp1⟩ => hp1 x H1 _ _ (Ext.refl _ _) s1 rv)
theorem ps_retNJ : PS X (.Return none pos) (RSt X xc W retNS) :=
  PSimp ps_retN fun D σ H ⟨η, st, Hi, μ, φ, he, hst, hp⟩ => hp _ _ _ _ (Ext.refl _ _) hst (show RpS _ _ _ (.pv .none) .non from .non)
theorem ps_iteJ {c : Expr} {a b : List Stmt} {fc : Envr → Store → Res Bool} {ga gb : FS} (hc : PT X c (RT X xc W fc)) (ha : PSs X a (RSt X xc W ga)) (hb : PSs X b (RSt X xc W gb)) : PS X (.If c a b pos) (RSt X xc W (iteS fc ga gb)) := by
  refine PSimp (ps_if hc ha hb) fun D σ H ⟨η, st, Hi, μ, φ, he, hst, hp⟩ => ?_
  refine rG_of he hst ((PostS.thn he hp).mono fun k H1 ⟨k', st1, Hi1, μ1, e1, s1, rv, hp1⟩ => ?_)
  have rv : k' = k := rv
  subst rv
  cases k' with
  | true => exact rS_of (he.mono e1) s1 hp1
  | false => exact rS_of (he.mono e1) s1 hp1
theorem ps_brkJ : PS X (.Break pos) (RSt X xc W brkS) :=
  PSimp ps_break fun D σ H ⟨η, st, Hi, μ, φ, he, hst, hp⟩ => hp _ _ _ _ (Ext.refl _ _) hst he
theorem ps_cntJ : PS X (.Continue pos) (RSt X xc W cntS) :=
  PSimp ps_continue fun D σ H ⟨η, st, Hi, μ, φ, he, hst, hp⟩ => hp _ _ _ _ (Ext.refl _ _) hst he
theorem ps_passJ : PS X (.Pass pos) (RSt X xc W nextS) :=
  PSimp ps_pass fun D σ H ⟨η, st, Hi, μ, φ, he, hst, hp⟩ => hp _ _ _ _ (Ext.refl _ _) hst he
theorem pss_nilJ : PSs X [] (RSt X xc W nextS) :=
  PSsimp pss_nil fun D σ H ⟨η, st, Hi, μ, φ, he, hst, hp⟩ => hp _ _ _ _ (Ext.refl _ _) hst he
theorem pss_consJ {s : Stmt} {ss : List Stmt} {f g : FS} (h1 : PS X s (RSt X xc W f)) (h2 : PSs X ss (RSt X xc W g)) : PSs X (s :: ss) (RSt X xc W (seqS f g)) := by
  refine PSsimp (pss_cons h1 h2) fun D σ H ⟨η, st, Hi, μ, φ, he, hst, hp⟩ => ⟨η, st, Hi, μ, φ, he, hst, ?_⟩
  unfold seqS at hp
  cases r : f η st with
  | next η1 st1 =>
    rw [r] at hp
    exact fun σ' H' Hi' μ' e s he' => ⟨η1, st1, Hi', μ', φ, he', s, PostS.ext hp e⟩
  | ret v st1 => rw [r] at hp; exact hp
  | brk η1 st1 => rw [r] at hp; exact hp
  | cnt η1 st1 => rw [r] at hp; exact hp
  | exc x η1 st1 => rw [r] at hp; exact hp
  | bad => rw [r] at hp; exact hp
theorem PostS.nx {K : PySem.W.Frag} {Hi : Hp} {μ : List Addr} {φ : List (Addr × HO)} {r : RS} {D : Ends} {k : Envr → Store → RS} {Nx : L2.St → Hp → Prop}
    (h : PostS K xc W Hi μ φ (match (generalizing := false) r with | .next η st => k η st | .cnt η st => k η st | .brk η st => .next η st | r => r) D)
    (hk : ∀ η st σ' H' Hi' μ', Ext Hi μ Hi' μ' → Sto K st H' Hi' μ' φ → EnvR K Hi' μ' η σ' → PostS K xc W Hi' μ' φ (k η st) D → Nx σ' H') :
    PostS K xc W Hi μ φ r { D with nx := Nx, ct := Nx, bk := D.nx } := by
  cases r with
  | next η st => exact fun σ' H' Hi' μ' e s he => hk η st σ' H' Hi' μ' e s he (h.ext e)
  | cnt η st => exact fun σ' H' Hi' μ' e s he => hk η st σ' H' Hi' μ' e s he (h.ext e)
  | brk η st => exact h
  | ret v st => exact h
  | exc x η st => exact h
  | bad => exact h
theorem ps_forJ {tgt iter : Expr} {body : List Stmt} {fi : FI} {tg : Tg} {fb : FS} (hp : PassesOwn (model X.prog X.w) X.A X.env X.xe) (hc : X.calm = true) (hi : PI X tgt iter (RI X xc W fi)) (hg : PG X tgt (tgV X.K tg)) (hb : PSs X body (RSt X xc W fb))
    (hs : ∀ x, foldedSetIterable iter X.env x = pure x) : PS X (.For tgt iter body [] pos) (RSt X xc W (forS tg fi fb)) := by
  refine PSimp (ps_for hp hc hi hg hb hs) fun D σ H ⟨η, st, Hi, μ, φ, he, hst, hp⟩ => ?_
  refine rG_of he hst ((PostS.thn he hp).mono fun J H1 ⟨items, st1, Hi1, μ1, e1, s1, hJ, hp1⟩ => ?_)
  have he1 := he.mono e1
  let P : Nat → L2.St → Hp → Prop := fun i σ H => ∃ η' st' Hi' μ', Ext Hi1 μ1 Hi' μ' ∧ EnvR X.K Hi' μ' η' σ ∧ Sto X.K st' H Hi' μ' φ ∧ PostS X.K xc W Hi' μ' φ (loopJ (forBd tg fb) (items.drop i) η' st') D
  refine ⟨fun i m σ H => m = items.length - i ∧ i ≤ items.length ∧ P i σ H, ⟨_, rfl, Nat.zero_le _, η, st1, Hi1, μ1, Ext.refl _ _, he1, s1, by simpa using hp1⟩, ?_⟩
  rintro i m σ' H' ⟨rfl, hi, η', st', Hi', μ', e2, he2, s2, hp2⟩
  by_cases hlt : i < items.length
  · refine .inr ⟨hJ.go i H' Hi' st' μ' _ e2.h s2 hlt, P (i + 1), fun σ3 H3 p => ⟨items.length - (i + 1), by omega, rfl, hlt, p⟩, fun x H3 y => ?_⟩
    have hcc : items[i]? = some items[i] := by simp [hlt]
    obtain ⟨Hi3, e3, s3, r3⟩ := hJ.yld i H' Hi' st' μ' _ x H3 _ e2.h s2 y hcc
    rw [List.drop_eq_getElem_cons hlt] at hp2
    unfold loopJ at hp2
    have hp3 := hp2.ext (Hi1 := Hi3) (.of e3)
    cases ha : asgT tg (.pv items[i]) η' with
    | none => simp only [forBd, ha] at hp3; exact hp3.elim
    | some η2 =>
      simp only [forBd, ha] at hp3
      refine tgV_of ha (he2.mono (.of e3)) s3.sub r3 fun σ4 he4 _ => ?_
      refine ⟨η2, st', Hi3, μ', φ, he4, s3, PostS.nx (k := loopJ (forBd tg fb) (items.drop (i + 1))) hp3 fun η5 st5 σ5 H5 Hi5 μ5 e5 s5 he5 hp5 => ?_⟩
      exact ⟨η5, st5, Hi5, μ5, (e2.trans (.of e3)).trans e5, he5, s5, hp5⟩
  · have hi' : i = items.length := by omega
    subst hi'
    refine .inl ⟨hJ.stop _ H' Hi' st' μ' _ e2.h s2 rfl, ?_⟩
    rw [List.drop_length] at hp2
    unfold loopJ at hp2
    exact hp2.nxt s2 he2
theorem ps_whlJ {c : Expr} {body : List Stmt} {fc : Envr → Store → Res Bool} {fb : FS} (n : Nat) (hp : PassesOwn (model X.prog X.w) X.A X.env X.xe) (hc : PT X c (RT X xc W fc)) (hb : PSs X body (RSt X xc W fb)) :
    PS X (.While c body [] pos) (RSt X xc W (whlS fc fb n)) := by
  refine PSimp (ps_while hp hc hb) fun D σ H ⟨η, st, Hi, μ, φ, he, hst, hp⟩ => ?_
  let P : Nat → L2.St → Hp → Prop := fun m σ H => ∃ η' st' Hi' μ', EnvR X.K Hi' μ' η' σ ∧ Sto X.K st' H Hi' μ' φ ∧ PostS X.K xc W Hi' μ' φ (whileJ fc fb m η' st') D
  refine ⟨P, ⟨n, η, st, Hi, μ, he, hst, hp⟩, ?_⟩
  rintro m σ' H' ⟨η', st', Hi', μ', he2, s2, hp2⟩
  cases m with
  | zero => exact hp2.elim
  | succ m =>
    unfold whileJ at hp2
    refine rG_of he2 s2 ((PostS.thn he2 hp2).mono fun k H1 ⟨k', st1, Hi1, μ1, e1, s1, rv, hp3⟩ => ?_)
    have rv : k' = k := rv
    subst rv
    cases k' with
    | false => exact hp3.nxt s1 (he2.mono e1)
    | true =>
      simp only [if_true] at hp3 ⊢
      refine ⟨P m, fun σ3 H3 p => ⟨m, Nat.lt_succ_self m, p⟩, ?_⟩
      exact rS_of (he2.mono e1) s1 (PostS.nx (k := whileJ fc fb m) hp3 fun η5 st5 σ5 H5 Hi5 μ5 e5 s5 he5 hp5 => ⟨η5, st5, Hi5, μ5, he5, s5, hp5⟩)
end
end J
end

section
set_option maxRecDepth 100000
set_option maxHeartbeats 4000000
/-! J7s: sorted(set(xs)) of texts. -/
namespace J
open PySem PySem.Spec PyProof.Rows L2
variable [LamT]

def kS (e : Int × Value) : Str := match e.2 with
  | .str x _ => x
  | _ => Str.empty
/-- a set of texts stands at a; its keys, in the order of its table -/
structure SetT (w : World) (h : Heap) (a : Addr) (es : Array (Int × Value)) : Prop where
  ex : ∃ o ep t, h.get? a = some o ∧ o.ExactSet ∧ o.data = .set es ep t ∧ t.fits es.size = true ∧ Ris t.place.toList ∧ (w.params.followText "set-order" = true ∨ t.led = true)
  good : ∀ e ∈ es.toList, (∃ t, e.2 = .str (kS e) t) ∧ e.1 = hashStr w (kS e)
  nd : (es.toList.map kS).Nodup
  few : es.size < scanBound
section
variable {P : Program} {w : World} {A : Around} {E : Value → Shared → Prop} {s : Shared} {a : Addr} {es : Array (Int × Value)}
theorem SetT.at {h h' : Heap} (R : SetT w h a es) (k : ∀ o, h.get? a = some o → h'.get? a = some o) : SetT w h' a es := by
  obtain ⟨⟨o, ep, t, ho, r⟩, g, d, f⟩ := R
  exact ⟨⟨o, ep, t, k o ho, r⟩, g, d, f⟩
theorem elS {l : List (Int × Value)} (g : ∀ e ∈ l, (∃ t, e.2 = .str (kS e) t) ∧ e.1 = hashStr w (kS e)) : ElemsOf (strKind P w) l := by
  intro e he
  obtain ⟨⟨t, h1⟩, h2⟩ := g e he
  refine ⟨⟨kS e, ?_, h2⟩, ?_⟩
  · rw [h1]; exact strKind_is P w _ t
  · rw [h1]; rfl
theorem isS {e : Int × Value} (g : ∃ t, e.2 = .str (kS e) t) (x : Str) : (strKind P w).is x e.2 = true ↔ kS e = x := by
  obtain ⟨t, h⟩ := g
  rw [h]
  show Value.isStrOf x (.str (kS e) t) = true ↔ _
  simp [Value.isStrOf]
/-- one more store, and the table may be laid anew -/
theorem tailS {g : Bool → Sem Unit} (hg : ∀ (b : Bool) (s' : Shared) (Q' : Unit → Shared → Prop), Q' () s' → wpAny (model P w) A (g b) Q' E s') {o : Obj} {ep : Nat} {t t2 : SetTable} {es1 : Array (Int × Value)}
    (ho : s.heap.get? a = some o) (hx : o.ExactSet) (hd : o.data = .set es ep t) (g1 : ∀ e ∈ es1.toList, (∃ t, e.2 = .str (kS e) t) ∧ e.1 = hashStr w (kS e)) (n1 : (es1.toList.map kS).Nodup) (f1 : es1.size < scanBound)
    (ft : t2.fits es1.size = true) (rs : Ris t2.place.toList) (ld : w.params.followText "set-order" = true ∨ t2.led = true) {dm : Bool} {R : Option Bool → Shared → Prop}
    (hR : ∀ h' es2, Heap.SameBut a s.heap h' → SetT w h' a es2 → es2.toList.Perm es1.toList → R (some true) { s with heap := h' }) :
    wpAny (model P w) A (do
      storeSet a es1 t2
      if (!dm && t2.tooFull) = true then do
        g (relayAll t2 es1 (SetTable.grown es1.size)).2.2
        storeSet a (relayAll t2 es1 (SetTable.grown es1.size)).1 (relayAll t2 es1 (SetTable.grown es1.size)).2.1
        pure (some true)
      else pure (some true)) R E s := by
  have u1 := store_at (es' := es1) (t' := t2) ho hd
  have b1 := Heap.SameBut.update s.heap a (Obj.putSet es1 t2)
  refine wpAny_bind (wpAny_storeSet_of ho hd ?_ (fits_of_scanBound f1))
  by_cases hc : (!dm && t2.tooFull) = true
  · rw [if_pos hc]
    obtain ⟨z1, z2⟩ := And.intro (relayAll_perm t2 es1 (SetTable.grown es1.size)) (relayAll_fits t2 es1 (SetTable.grown es1.size))
    obtain ⟨z3, z4⟩ := And.intro (relayAll_ris t2 es1 (SetTable.grown es1.size)) (relayAll_led t2 es1 (SetTable.grown es1.size))
    have zs : (relayAll t2 es1 (SetTable.grown es1.size)).1.size = es1.size := by rw [← Array.length_toList, z1.length_eq, Array.length_toList]
    have u2 := store_at (es' := (relayAll t2 es1 (SetTable.grown es1.size)).1) (t' := (relayAll t2 es1 (SetTable.grown es1.size)).2.1) u1 rfl
    refine wpAny_bind (hg _ _ _ (wpAny_bind (wpAny_storeSet_of u1 rfl (wpAny_pure (hR _ _ (b1.trans (Heap.SameBut.update _ a _)) ⟨⟨_, _, _, u2, hx, rfl, z2, z3, ld.imp id fun q => by rw [z4]; exact q⟩, fun e he => g1 e (z1.mem_iff.mp he), (z1.map kS).nodup_iff.mpr n1, by rw [zs]; exact f1⟩ z1)) (fits_of_scanBound (by rw [zs]; exact f1)))))
  · rw [if_neg hc]
    exact wpAny_pure (hR _ _ b1 ⟨⟨_, _, _, u1, hx, rfl, ft, rs, ld⟩, g1, n1, f1⟩ (List.Perm.refl _))
/-- a text goes in -/
theorem addS {x : Str} {tk : Tok} {Q : Bool → Shared → Prop} (R : SetT w s.heap a es) (room : es.size + 1 < scanBound)
    (hQ : ∀ b h' es2, Heap.SameBut a s.heap h' → SetT w h' a es2 → (es2.toList.map kS).Perm (if x ∈ es.toList.map kS then es.toList.map kS else x :: es.toList.map kS) → Q b { s with heap := h' }) :
    wpAny (model P w) A (setAddHashed a (.str x tk) ((strKind P w).hash x)) Q E s := by
  obtain ⟨⟨o, ep, t, ho, hx, hd, ft, rs, ld⟩, g, n, f⟩ := id R
  have hk : (strKind P w).is x (.str x tk) = true := strKind_is P w x tk
  have el : ElemsOf (strKind P w) es.toList := elS g
  have sc : (Value.str x tk).scannable = true := rfl
  unfold setAddHashed setAddHashedIn
  refine wpAny_holding (wpAny_bind (wpAny_setState_of ho hd ft ?_))
  dsimp only
  rw [byScan_of sc f el]
  simp only [↓reduceIte]
  unfold setAddByScan
  refine wpAny_bind (wpAny_bind (wpAny_rule (wpAny_bind (wpAny_setScan_of hk ho hd ft el ?_))))
  cases q : List.findIdx? (fun e => (strKind P w).is x e.2) es.toList with
  | some j =>
    obtain ⟨hj, pj, _⟩ := List.findIdx?_eq_some_iff_getElem.mp q
    have hm : x ∈ es.toList.map kS := List.mem_map.mpr ⟨_, List.getElem_mem hj, (isS (g _ (List.getElem_mem hj)).1 x).mp pj⟩
    exact wpAny_pure (wpAny_pure (hQ _ s.heap es (Heap.SameBut.refl a s.heap) R (by rw [if_pos hm])))
  | none =>
    have hm : x ∉ es.toList.map kS := fun z => by
      obtain ⟨e, he, ez⟩ := List.mem_map.mp z
      have c := List.findIdx?_eq_none_iff.mp q e he
      rw [(isS (g e he).1 x).mpr ez] at c
      cases c
    have way : ∀ (b : Bool) {s' : Shared} {Q' : Unit → Shared → Prop}, Q' () s' → wpAny (model P w) A (match b with | true => rule "set.scan.the-table-gave-way" | false => pure ()) Q' E s' :=
      fun b s' Q' z => by cases b; exact wpAny_pure z; exact wpAny_rule z
    have y1 := layNew_perm t es ((strKind P w).hash x) (.str x tk)
    have y2 := layNew_fits t es ((strKind P w).hash x) (.str x tk)
    have y3 := layNew_ris t es ((strKind P w).hash x) (.str x tk) rs
    have y4 := layNew_led t es ((strKind P w).hash x) (.str x tk)
    dsimp only
    generalize layNew t es ((strKind P w).hash x) (.str x tk) = Z at y1 y2 y3 y4 ⊢
    obtain ⟨es1, t1, dm, gave⟩ := Z
    dsimp only at y1 y2 y3 y4 ⊢
    have pc : es1.toList.Perm (((strKind P w).hash x, Value.str x tk) :: es.toList) := (Array.toList_push ▸ y1).trans (List.perm_append_singleton _ _)
    have pk : (es1.toList.map kS).Perm (x :: es.toList.map kS) := pc.map kS
    have g1 : ∀ e ∈ es1.toList, (∃ t, e.2 = .str (kS e) t) ∧ e.1 = hashStr w (kS e) := fun e he => by
      rcases List.mem_cons.mp (pc.mem_iff.mp he) with z | z
      · subst z; exact ⟨⟨tk, rfl⟩, rfl⟩
      · exact g e z
    have n1 : (es1.toList.map kS).Nodup := pk.nodup_iff.mpr (List.nodup_cons.mpr ⟨hm, n⟩)
    have f1 : es1.size < scanBound := by
      have : es1.size = es.size + 1 := by rw [← Array.length_toList, pc.length_eq, List.length_cons, Array.length_toList]
      omega
    have ld1 : w.params.followText "set-order" = true ∨ t1.led = true := ld.imp id fun z => by rw [y4]; exact z
    have fin : ∀ h' es2, Heap.SameBut a s.heap h' → SetT w h' a es2 → es2.toList.Perm es1.toList → Q true { s with heap := h' } := fun h' es2 sb r p =>
      hQ _ h' es2 sb r (by rw [if_neg hm]; exact (p.map kS).trans pk)
    refine wpAny_bind (way _ ?_)
    split
    · rw [hashByValue_scannable 8 sc]
      refine wpAny_bind (wpAny_pure (tailS (fun b s' Q' z => by cases b; exact wpAny_pure z; exact wpAny_rule z) ho hx hd g1 n1 f1 ?_ ?_ ?_ fun h' es2 sb r p => wpAny_pure (fin h' es2 sb r p)))
      · first | exact y2 | (split; exact y2; exact SetTable.fits_plain_off y2)
      · first | exact y3 | (split <;> exact y3)
      · first | exact ld1 | (split <;> exact ld1)
    · refine wpAny_bind (wpAny_pure ?_)
      simp only [↓reduceIte]
      exact tailS (fun b s' Q' z => by cases b; exact wpAny_pure z; exact wpAny_rule z) ho hx hd g1 n1 f1 y2 y3 ld1 fun h' es2 sb r p => wpAny_pure (fin h' es2 sb r p)
end
theorem onceL_perm : ∀ (xs : List Str) {a b : List Str}, a.Perm b → (onceL xs a).Perm (onceL xs b)
  | [], _, _, h => h
  | x :: xs, a, b, h => by
    unfold onceL
    refine onceL_perm xs ?_
    by_cases q : x ∈ a
    · rw [if_pos q, if_pos (h.mem_iff.mp q)]; exact h
    · rw [if_neg q, if_neg fun z => q (h.mem_iff.mpr z)]; exact h.cons x
theorem onceL_mem : ∀ (xs acc : List Str) (y : Str), y ∈ onceL xs acc ↔ y ∈ xs ∨ y ∈ acc
  | [], acc, y => by simp [onceL]
  | x :: xs, acc, y => by
    unfold onceL
    rw [onceL_mem xs _ y]
    by_cases q : x ∈ acc
    · rw [if_pos q, List.mem_cons]
      constructor
      · rintro (h | h)
        · exact .inl (.inr h)
        · exact .inr h
      · rintro ((h | h) | h)
        · subst h; exact .inr q
        · exact .inl h
        · exact .inr h
    · rw [if_neg q, List.mem_cons, List.mem_cons]
      constructor
      · rintro (h | h | h)
        · exact .inl (.inr h)
        · exact .inl (.inl h)
        · exact .inr h
      · rintro ((h | h) | h)
        · exact .inr (.inl h)
        · exact .inl h
        · exact .inr (.inr h)
theorem onceL_nd : ∀ (xs acc : List Str), acc.Nodup → (onceL xs acc).Nodup
  | [], acc, h => h
  | x :: xs, acc, h => by
    unfold onceL
    refine onceL_nd xs _ ?_
    by_cases q : x ∈ acc
    · rw [if_pos q]; exact h
    · rw [if_neg q]; exact List.nodup_cons.mpr ⟨q, h⟩
theorem onceL_len : ∀ (xs acc : List Str), (onceL xs acc).length ≤ xs.length + acc.length
  | [], acc => by simp [onceL]
  | x :: xs, acc => by
    unfold onceL
    have := onceL_len xs (if x ∈ acc then acc else x :: acc)
    by_cases q : x ∈ acc
    · rw [if_pos q] at this ⊢; simp; omega
    · rw [if_neg q] at this ⊢; simp at this ⊢; omega
section
variable {P : Program} {w : World} {A : Around} {E : Value → Shared → Prop} {s : Shared}
/-- the loop of set(xs) -/
theorem loopS {I l S : Addr} {items : Array Value} {xs : List Str} {R : Result → Shared → Prop} (hh : A.handled = none) (hi : ∀ (i : Nat) (x : Str), xs[i]? = some x → ∃ t, items[i]? = some (Value.str x t)) (hn : items.size = xs.length) (hlI : l ≠ I) (hSI : S ≠ I) (hSl : S ≠ l) (hb : xs.length + 1 < scanBound) :
    ∀ (k i : Nat) (s : Shared) (es : Array (Int × Value)), xs.length - i = k → i ≤ xs.length → s.heap.IsListIter I l i → s.heap.IsList l items → SetT w s.heap S es → es.size ≤ i →
      (∀ h' tk es2, (∀ b o, b ≠ S → b ≠ I → s.heap.get? b = some o → h'.get? b = some o) → SetT w h' S es2 → (es2.toList.map kS).Perm (onceL (xs.drop i) (es.toList.map kS)) → R (.ok (.ret .none)) { s with heap := h', toks := tk }) →
      codeAny (model P w) A (.builtin "set.update.loop" ⟨[.ref S, .ref I], []⟩) R s := by
  have W : Walks P w A.in1 I [I, l] [I] items.size (fun i v => items[i]? = some v) (fun i h => h.IsListIter I l i ∧ h.IsList l items) := Walks.list (A := A.in1) (show A.in1.handled = none from hh) I l hlI items
  intro k
  induction k with
  | zero =>
    intro i s es hk hi' hit hl hS he hR
    have ei : i = items.size := by omega
    refine codeAny_builtin F.entry_set_update_loop ?_
    rw [Around.under_plainId F.plain_set_update_loop _]
    show wpAny _ A.in1 (pyNext (.ref I) >>= _) _ _ s
    refine wpAny_bind (W.done s _ _ (by rw [← ei]; exact ⟨hit, hl⟩) fun h' tk hk' => ?_)
    show wpAny _ A.in1 (ret Value.none) _ _ _
    refine wpAny_pure (hR h' tk es (fun b o _ h2 q => hk' b o (by simpa using h2) q) (hS.at fun o q => hk' S o (by simpa using hSI) q) ?_)
    rw [List.drop_eq_nil_of_le (by omega)]
    exact List.Perm.refl _
  | succ k ih =>
    intro i s es hk hi' hit hl hS he hR
    have hlt : i < xs.length := by omega
    obtain ⟨t, ht⟩ := hi i xs[i] (by simp [hlt])
    refine codeAny_builtin F.entry_set_update_loop ?_
    rw [Around.under_plainId F.plain_set_update_loop _]
    show wpAny _ A.in1 (pyNext (.ref I) >>= _) _ _ s
    refine wpAny_bind (W.item i s _ _ (by omega) ⟨hit, hl⟩ fun v h' tk hv st' hk' => ?_)
    rw [ht] at hv
    cases hv
    have hS' : SetT w h' S es := hS.at fun o q => hk' S o (by simpa using hSI) q
    show wpAny _ A.in1 (holding [Value.str xs[i] t] (setAdd S (.str xs[i] t)) >>= _) _ _ _
    refine wpAny_bind (wpAny_holding ?_)
    unfold setAdd
    refine wpAny_holding (wpAny_bind ((strKind P w).pyHash (k := xs[i]) (strKind_is _ _ _ _) ?_))
    refine addS (s := { s with heap := h', toks := tk + 1 }) hS' (by omega) fun b h2 es2 sb R2 p2 => ?_
    refine wpAny_pure ⟨plainId_quiet F.plain_set_update_loop _, ih (i + 1) _ es2 (by omega) (by omega) ?_ ?_ R2 ?_ fun h3 tk3 es3 k3 R3 p3 => ?_⟩
    · exact st'.1.at fun o q => sb.2 I (Ne.symm hSI) ▸ q
    · exact st'.2.at fun o q => sb.2 l (Ne.symm hSl) ▸ q
    · have := p2.length_eq
      simp only [List.length_map, Array.length_toList] at this
      split at this
      · simp at this; omega
      · simp at this; omega
    · refine hR h3 tk3 es3 (fun c o h1 h2' q => k3 c o h1 h2' ?_) R3 ?_
      · show h2.get? c = some o
        rw [sb.2 c h1]; exact hk' c o (by simpa using h2') q
      · rw [List.drop_eq_getElem_cons hlt]
        unfold onceL
        exact p3.trans (onceL_perm _ p2)
theorem newCall_set1 (a : Value) : checkBuiltinCall "set.__new__" ⟨[.type "set", a], []⟩ = pure () := F.newCall_set_1 a
/-- set.__new__ -/
theorem codeNewS (x : Value) {Q₁ : Value → Shared → Prop} (h : Q₁ (.ref s.heap.objs.size) { s with heap := s.heap.push { cls := .type "set", dict := none, data := .set #[] 0 (.fresh 0 0 (!w.params.followText "set-order")) } }) :
    codeAny (model P w) A (.call (.builtin "set.__new__") ⟨[.type "set", x], []⟩) (wants Q₁ E) s := by
  refine codeAny_of_tree (show wpAny _ A.in1 (do checkBuiltinCall "set.__new__" ⟨[.type "set", x], []⟩; again (.builtin "set.__new__" ⟨[.type "set", x], []⟩)) _ _ s from ?_)
  refine wpAny_bind (wpAny_of_eq (newCall_set1 x) (wpAny_pure ⟨plainId_quiet F.plain_set_new _, codeAny_builtin F.entry_set_new ?_⟩))
  rw [Around.under_plainId F.plain_set_new _]
  have sub := sub_set_self
  unfold Builtin.«set.__new__» Builtin.Frozenset.newClass
  obtain ⟨hp, g, d, tk, os⟩ := s
  dsimp only
  wp_walk
  refine wpAny_askSetting (wpAny_pure ?_)
  simp only [newObj]
  exact wpAny_bind (wpAny_alloc (wpAny_pure (wpAny_pure h)))
theorem freshS {h : Heap} : SetT w (h.push { cls := .type "set", dict := none, data := .set #[] 0 (.fresh 0 0 (!w.params.followText "set-order")) }) h.objs.size #[] := by
  refine ⟨⟨_, 0, _, Heap.get?_push_size _ rfl, ⟨rfl, rfl, rfl⟩, rfl, rfl, List.Pairwise.nil, ?_⟩, fun e he => by simp at he, by simp, by decide⟩
  show _ ∨ (!w.params.followText "set-order") = true
  cases w.params.followText "set-order"
  · exact .inr rfl
  · exact .inl rfl
set_option maxHeartbeats 8000000 in
/-- set(xs) of a list of texts -/
theorem callSetS {l : Addr} {items : Array Value} {xs : List Str} {Q : Value → Shared → Prop} (hh : A.handled = none) (hl : s.heap.IsList l items) (hi : ∀ (i : Nat) (x : Str), xs[i]? = some x → ∃ t, items[i]? = some (Value.str x t)) (hn : items.size = xs.length) (hb : xs.length + 1 < scanBound)
    (h : ∀ h' tk es, (∀ b o, s.heap.get? b = some o → h'.get? b = some o) → SetT w h' s.heap.objs.size es → (es.toList.map kS).Perm (onceL xs []) → Q (.ref s.heap.objs.size) { s with heap := h', toks := tk }) :
    wpAny (model P w) A (call (.type "set") [.ref l]) Q E s := by
  obtain ⟨c, tl, hmro⟩ := F.called_set.mro
  have hmade := F.called_set.made
  have hsub := F.called_set.sub
  refine wpAny_call (codeAny_of_tree (show wpAny _ _ (callAny (.type "set") _) _ _ _ from ?_))
  refine wpAny_pure ⟨Code.quiet_builtin _ (by decide +kernel), codeAny_builtin F.entry_type_call ?_⟩
  rw [Around.under_plain (weight_type_call_type "set" [.ref l] []) rfl]
  have h1 := F.called_set.notType
  have h2 := F.called_set.canCreate
  have hct := F.typeCall_set_1 (.ref l)
  repeat (any_goals (first | assumption | wp_step))
  have fr : SetT w (s.heap.push { cls := .type "set", dict := none, data := .set #[] 0 (.fresh 0 0 (!w.params.followText "set-order")) }) s.heap.objs.size #[] := freshS
  have cn : ∀ Q₁ : Value → Shared → Prop, Q₁ (.ref s.heap.objs.size) { s with heap := s.heap.push { cls := .type "set", dict := none, data := .set #[] 0 (.fresh 0 0 (!w.params.followText "set-order")) } } → codeAny (model P w) A.in1 (.call (.builtin "set.__new__") ⟨[.type "set", .ref l], []⟩) (wants Q₁ E) s := fun Q₁ q => codeNewS (.ref l) q
  revert fr cn
  generalize (!w.params.followText "set-order") = led
  intro fr cn
  refine codeAny_mono (cn (fun obj s₁ => obj = .ref s.heap.objs.size ∧ s₁ = { s with heap := s.heap.push { cls := .type "set", dict := none, data := .set #[] 0 (.fresh 0 0 led) } }) ⟨rfl, rfl⟩) fun r s₁ hr => ?_
  cases r with
  | error e => exact hr
  | ok fl =>
    cases fl with
    | ret obj =>
      obtain ⟨rfl, rfl⟩ := hr
      have hS : (s.heap.push { cls := .type "set", dict := none, data := .set #[] 0 (.fresh 0 0 led) }).get? s.heap.objs.size = some { cls := .type "set", dict := none, data := .set #[] 0 (.fresh 0 0 led) } := Heap.get?_push_size _ rfl
      have hT : Shared.TypeIs { s with heap := s.heap.push { cls := .type "set", dict := none, data := .set #[] 0 (.fresh 0 0 led) } } (.ref s.heap.objs.size) "set" := ⟨_, hS, rfl⟩
      have hli := F.called_set.init.lookup
      have hbi := F.called_set.init.bind (.ref s.heap.objs.size)
      repeat (any_goals (first | assumption | wp_step))
      refine codeAny_mono (codeAny_call_builtin (R := wants (fun r s₂ => r = .none ∧ ∃ h' tk es, s₂ = { s with heap := h', toks := tk } ∧ (∀ b o, s.heap.get? b = some o → h'.get? b = some o) ∧ SetT w h' s.heap.objs.size es ∧ (es.toList.map kS).Perm (onceL xs [])) E)
        F.called_set.init.plain F.entry_set_init (check_set_init_1 hT ?_)) fun r₂ s₂ hr₂ => ?_
      · obtain ⟨ol, hol, hcl, nl, hdl⟩ := hl
        obtain ⟨ocls, odict, odata, oslots⟩ := ol
        simp only at hcl hdl
        subst hcl hdl
        have hol' : (s.heap.push { cls := .type "set", dict := none, data := .set #[] 0 (.fresh 0 0 led) }).get? l = some { cls := .type "list", dict := odict, data := .seq items nl, slots := oslots } := Heap.get?_push_of_some _ hol
        have e1 := F.sub_list_set
        have e2 := F.sub_list_frozenset
        have e3 : (Value.type "list" == Value.type "dict") = false := by decide
        have hl1 : (s.heap.push { cls := .type "set", dict := none, data := .set #[] 0 (.fresh 0 0 led) }).IsList l items := ⟨_, hol', rfl, nl, rfl⟩
        unfold Builtin.«set.__init__» noKeywords Builtin.Frozenset.updateFrom
        generalize hPI : pyIter = PI
        wp_walk
        subst hPI
        refine wpAny_pyIter_list hl1 ?_
        refine wpAny_bind (wpAny_runValue ?_)
        have hlS : l < s.heap.objs.size := Heap.lt_size hol
        have zI : (s.heap.push { cls := .type "set", dict := none, data := .set #[] 0 (.fresh 0 0 led) }).objs.size = s.heap.objs.size + 1 := by rw [Heap.size_push]
        have hh3 : A.in1.in1.in1.handled = none := hh
        refine loopS (I := (s.heap.push { cls := .type "set", dict := none, data := .set #[] 0 (.fresh 0 0 led) }).objs.size) (l := l) (S := s.heap.objs.size) (items := items) (xs := xs) (A := A.in1.in1) hh hi hn ?_ ?_ (Nat.ne_of_gt hlS) hb xs.length 0 _ #[] rfl (Nat.zero_le _) ⟨_, Heap.get?_push_size _ rfl, rfl, rfl⟩ (hl1.push _) (fr.at fun o q => Heap.get?_push_of_some _ q) (by simp) fun h' tk es k' R' p' => ?_
        · rw [zI]; exact Nat.ne_of_lt (Nat.lt_succ_of_lt hlS)
        · rw [zI]; exact Nat.ne_of_lt (Nat.lt_succ_self _)
        · show wpAny _ _ _ _ _ _
          refine wpAny_pure (show wpAny _ _ (ret Value.none) _ _ _ from wpAny_pure ⟨rfl, h', tk, es, rfl, fun b o q => ?_, R', by simpa using p'⟩)
          have hb1 := Heap.lt_size q
          exact k' b o (Nat.ne_of_lt hb1) (by rw [zI]; exact Nat.ne_of_lt (Nat.lt_succ_of_lt hb1)) (Heap.get?_push_of_some _ (Heap.get?_push_of_some _ q))
      · cases r₂ with
        | error e => exact hr₂
        | ok fl₂ =>
          cases fl₂ with
          | ret r =>
            obtain ⟨rfl, h', tk, es, rfl, k', R', p'⟩ := hr₂
            repeat (any_goals (first | assumption | wp_step))
            exact h h' tk es k' R' p'
          | _ => exact hr₂.elim
    | _ => exact hr.elim
end
end J
end

section
set_option maxRecDepth 100000
set_option maxHeartbeats 2000000
/-! J7t: sorted(set(xs)) of texts as a reading. -/
namespace J
open PySem PySem.Spec PyProof.Rows L2
variable [LamT]
def SetTO (w : World) (a : Addr) (es : Array (Int × Value)) : HO := .ext fun h => SetT w h a es
theorem setTO_new {w : World} {P : Program} {H : Hp} {h : Heap} {a : Addr} {es : Array (Int × Value)} (R : SetT w h a es) : ObjOk P w H h a (SetTO w a es) := by
  obtain ⟨o, ep, t, ho, r⟩ := R.ex
  exact ⟨R, ⟨o, ho⟩, fun h1 h2 p k => SetT.at p k⟩
theorem perm_sorted {α : Type} {r : α → α → Prop} (anti : ∀ a b, r a b → r b a → a = b) : ∀ {l1 l2 : List α}, l1.Perm l2 → l1.Pairwise r → l2.Pairwise r → l1 = l2
  | [], l2, h, _, _ => (List.Perm.nil_eq h)
  | x :: xs, [], h, _, _ => by simpa using h.length_eq
  | x :: xs, y :: ys, h, h1, h2 => by
    obtain ⟨a1, a2⟩ := List.pairwise_cons.mp h1
    obtain ⟨b1, b2⟩ := List.pairwise_cons.mp h2
    have e : x = y := by
      have m1 : x ∈ y :: ys := h.mem_iff.mp List.mem_cons_self
      have m2 : y ∈ x :: xs := h.mem_iff.mpr List.mem_cons_self
      rcases List.mem_cons.mp m1 with q | q
      · exact q
      · rcases List.mem_cons.mp m2 with p | p
        · exact p.symm
        · exact anti _ _ (a1 _ p) (b1 _ q)
    subst e
    rw [perm_sorted anti (List.perm_cons x |>.mp h) a2 b2]
theorem str_eq {a b : Str} (h : a.cps.toList = b.cps.toList) : a = b := by
  cases a with | mk x => cases b with | mk y => simp at h; rw [h]
theorem leS_tot (a b : Str) : (leS a b || leS b a) = true := by
  simp only [leS, Bool.or_eq_true, decide_eq_true_eq]
  exact List.le_total _ _
theorem leS_trans (a b c : Str) (h1 : leS a b = true) (h2 : leS b c = true) : leS a c = true := by
  simp only [leS, decide_eq_true_eq] at *
  exact List.le_trans h1 h2
theorem leS_anti (a b : Str) (h1 : leS a b = true) (h2 : leS b a = true) : a = b := by
  simp only [leS, decide_eq_true_eq] at *
  exact str_eq (List.le_antisymm h1 h2)
theorem sort_perm {l1 l2 : List Str} (h : l1.Perm l2) : l1.mergeSort leS = l2.mergeSort leS :=
  perm_sorted (r := fun a b => leS a b = true) leS_anti ((List.mergeSort_perm _ _).trans (h.trans (List.mergeSort_perm _ _).symm)) (List.pairwise_mergeSort leS_trans leS_tot _) (List.pairwise_mergeSort leS_trans leS_tot _)
def rSetT (w : World) (K : PySem.W.Frag) : List V → Hp → VK → Prop := fun vs H Q => ∃ l xs, vs = [V.ref l] ∧ SqL K H l (List.map V.str xs) ∧ xs.length ≤ 1000 ∧ ∀ es p, (es.toList.map kS).Perm (onceL xs []) → H p = none → Q (V.ref p) (upd H p (SetTO w p es))
def rSrtT (w : World) : List V → Hp → VK → Prop := fun vs H Q => ∃ a es, vs = [V.ref a] ∧ H a = some (SetTO w a es) ∧ ∀ p, H p = none → Q (.ref p) (upd H p (.lst (((es.toList.map kS).mergeSort leS).map V.str)))
theorem vals_strs : ∀ {xs : List Str} {its : List Value}, Vals (xs.map V.str) its → ∀ (i : Nat) (x : Str), xs[i]? = some x → ∃ t, its[i]? = some (.str x t)
  | [], _, _, i, x, h => by simp at h
  | y :: xs, _, .cons r t, 0, x, h => by
    obtain ⟨k, hk⟩ := r
    simp at h
    subst h
    exact ⟨k, by rw [hk]; rfl⟩
  | y :: xs, _, .cons r t, i + 1, x, h => by
    obtain ⟨k, hk⟩ := vals_strs t i x (by simpa using h)
    exact ⟨k, by simpa using hk⟩
section
variable {X : Cx}
theorem cr_setT (hc : X.calm = true) : CallR X (.type "set") (rSetT X.w X.K) := by
  intro pins s σ H vs us Q I r h
  obtain ⟨l, xs, rfl, hl, hz, q⟩ := h
  rw [Vals.ref1 r]
  obtain ⟨its, rv, pl, z⟩ := I.list hl
  have hn : its.toArray.size = xs.length := by rw [List.size_toArray, ← rv.length, List.length_map]
  refine callSetS (I.ok.hd hc) pl.isList (fun i x hx => by
    obtain ⟨t, ht⟩ := vals_strs rv i x hx
    exact ⟨t, by simpa using ht⟩) hn (by unfold scanBound; omega) fun h' tk es k R pm => ?_
  exact ⟨.ref _, upd H s.heap.objs.size (SetTO X.w s.heap.objs.size es), I.laid k (Nat.le_refl _) (setTO_new R), rfl, q es _ pm (I.hok.fresh (Nat.le_refl _))⟩
theorem each_strs : ∀ {l : List (Int × Value)}, (∀ e ∈ l, ∃ t, e.2 = .str (kS e) t) → PySem.W.EachIs (fun v (b : Str) => ∃ t, v = Value.str b t) (l.map (·.2)) (l.map kS)
  | [], _ => .nil
  | e :: l, h => .cons (h e List.mem_cons_self) (each_strs fun x hx => h x (List.mem_cons_of_mem _ hx))
def strV : Value → Str
  | .str x _ => x
  | _ => Str.empty
theorem each_strs' : ∀ {l : List Value}, (∀ v ∈ l, ∃ x t, v = Value.str x t) → PySem.W.EachIs (fun v (b : Str) => ∃ t, v = Value.str b t) l (l.map strV)
  | [], _ => .nil
  | v :: l, h => .cons (by obtain ⟨x, t, e⟩ := h v List.mem_cons_self; exact ⟨t, by rw [e]; rfl⟩) (each_strs' fun x hx => h x (List.mem_cons_of_mem _ hx))
theorem vals_of_each : ∀ {l : List Value} {ys : List Str}, PySem.W.EachIs (fun v (b : Str) => ∃ t, v = Value.str b t) l ys → Vals (ys.map V.str) l
  | _, _, .nil => .nil
  | _, _, .cons ⟨t, e⟩ h => .cons ⟨t, e⟩ (vals_of_each h)
theorem cr_srtT (hc : X.calm = true) (hu : X.A.units + 64 < cLine) : CallR X (.builtin "sorted") (rSrtT X.w) := by
  intro pins s σ H vs us Q I r h
  obtain ⟨a, es, rfl, ha, q⟩ := h
  have R : SetT X.w s.heap a es := (I.hok a _ ha).1
  rw [Vals.ref1 r]
  obtain ⟨⟨o, ep, t, ho, hex, hd, hf, hr, hl⟩, g, nd, few⟩ := R
  have hh := I.ok.hd hc
  refine Calls.call_function_entry kind_sorted plain_sorted entry_sorted (args_sorted1 _) ?_
  unfold Builtin.«sorted»
  refine wpAny_bind (m := checkCount "sorted" 1 1 _) (wpAny_pure ?_)
  refine wpAny_bind (collect_set (A := X.A.in1) hh ⟨o, ho, hex.1, hd⟩ hf few hr hl fun s1 vs k1 hz g1 o1 pm => ?_)
  have hvl : vs.length = es.size := by rw [pm.length_eq, List.length_map, Array.length_toList]
  have few' : es.size < 4096 := few
  have hvz : vs.length ≤ sizeLine := by rw [hvl]; unfold sizeLine; omega
  have hS : ∀ v ∈ vs, ∃ x t, v = Value.str x t := fun v hv => by
    obtain ⟨e, he, q⟩ := List.mem_map.mp (pm.mem_iff.mp hv)
    obtain ⟨⟨t, h1⟩, _⟩ := g e he
    exact ⟨_, t, by rw [← q]; exact h1⟩
  have hE := each_strs' hS
  have pk : (vs.map strV).Perm (es.toList.map kS) := by
    have q := pm.map strV
    rw [List.map_map] at q
    exact q
  refine wpAny_bind (wpAny_newList ?_ hvz)
  have hoL : (s1.heap.push (seqObj "list" vs.toArray 0)).get? s1.heap.objs.size = some (seqObj "list" vs.toArray 0) := Heap.get?_push_size _ rfl
  refine wpAny_bind (wpAny_holding (PySem.W.list_sort_data (enc := PyData.str) (s := { s1 with heap := s1.heap.push (seqObj "list" vs.toArray 0) }) hoL hE (hE.mono fun v b ⟨t, e⟩ => ⟨[], by rw [e]; exact .str _ _, by simp⟩) ?_ (.inr ?_) (by rw [List.length_map]; exact hvz) ?_ fun out ho2 eo => ?_))
  · intro d hd d' hd'
    obtain ⟨x, _, rfl⟩ := List.mem_map.mp hd
    obtain ⟨y, _, rfl⟩ := List.mem_map.mp hd'
    rfl
  · intro d hd
    obtain ⟨x, _, rfl⟩ := List.mem_map.mp hd
    exact ⟨by simp, by simp⟩
  · intro b hb
    simp only [Around.in1_units, PyData.depth]
    omega
  · obtain ⟨c, hc2⟩ := sortedHeap_at (vs := vs) (out := out.toArray) hoL
    have en : (vs.map strV).mergeSort (PySem.W.dataLe false PyData.str) = ((es.toList.map kS).mergeSort leS) := by
      have : PySem.W.dataLe false PyData.str = leS := PySem.W.dataLe_str id
      rw [this]
      exact sort_perm pk
    rw [en] at eo
    have hn : H s1.heap.objs.size = none := I.hok.fresh hz
    have kk : ∀ b u, s.heap.get? b = some u → (sortedHeap (s1.heap.push (seqObj "list" vs.toArray 0)) s1.heap.objs.size vs out.toArray).get? b = some u := fun b u e => by
      have q := k1 b u e
      have hlt := Heap.lt_size q
      rw [sortedHeap_old (Nat.ne_of_lt hlt) (by rw [size_push']; exact Nat.lt_succ_of_lt hlt)]
      exact Heap.get?_push_of_some _ q
    have hlen : (((es.toList.map kS).mergeSort leS).map V.str).length ≤ sizeLine := by
      rw [List.length_map, List.length_mergeSort, List.length_map, Array.length_toList]; unfold sizeLine; omega
    refine wpAny_pure ?_
    refine ⟨_, rfl, .ref s1.heap.objs.size, upd H s1.heap.objs.size (.lst (((es.toList.map kS).mergeSort leS).map V.str)), ?_, rfl, q _ hn⟩
    have J : Inv X pins σ (upd H s1.heap.objs.size (.lst (((es.toList.map kS).mergeSort leS).map V.str))) { s with heap := sortedHeap (s1.heap.push (seqObj "list" vs.toArray 0)) s1.heap.objs.size vs out.toArray, gens := s1.gens, drawn := s1.drawn, toks := s1.toks } :=
      I.call (ch := []) (Un.laid kk hz hn) (I.hok.laid kk hz ⟨hlen, out, c, vals_of_each eo, hc2⟩) (by rw [g1]; exact I.bare) (fun _ z => nomatch z)
    cases s1
    cases s
    cases o1
    exact J
end
theorem strsOf_rel {K : PySem.W.Frag} {Hi : Hp} : ∀ {xs : List PV} {vs : List V} {ss : List Str}, Rps K Hi xs vs → strsOf xs = some ss → vs = ss.map V.str ∧ ∀ s ∈ ss, PyData.strOk s = true ∧ s.length ≤ sizeLine
  | _, _, _, .nil, e => by cases e; exact ⟨rfl, by simp⟩
  | _ :: xs, _, ss, .cons r t, e => by
    cases r with
    | str s h1 h2 =>
      simp only [strsOf] at e
      cases q : strsOf xs with
      | none => rw [q] at e; cases e
      | some qs =>
        rw [q] at e
        cases e
        obtain ⟨a1, a2⟩ := strsOf_rel t q
        refine ⟨by rw [a1]; rfl, fun x hx => ?_⟩
        rcases List.mem_cons.mp hx with rfl | hx
        · exact ⟨h1, h2⟩
        · exact a2 x hx
    | _ => simp [strsOf] at e
theorem rps_strs {K : PySem.W.Frag} {Hi : Hp} : ∀ {ss : List Str}, (∀ s ∈ ss, PyData.strOk s = true ∧ s.length ≤ sizeLine) → Rps K Hi (ss.map PyData.str) (ss.map V.str)
  | [], _ => .nil
  | s :: ss, h => .cons (.str s (h s List.mem_cons_self).1 (h s List.mem_cons_self).2) (rps_strs fun x hx => h x (List.mem_cons_of_mem _ hx))
theorem Sto.unfr {K : PySem.W.Frag} {st : Store} {H Hi : Hp} {μ : List Addr} {φ : List (Addr × HO)} {q : Addr × HO} (s : Sto K st H Hi μ (q :: φ)) : Sto K st H Hi μ φ :=
  ⟨s.sub, s.len, s.nd, s.cell, fun p hp => s.fr p (List.mem_cons_of_mem _ hp), (List.nodup_cons.mp (show (q.1 :: φ.map Prod.fst).Nodup from s.fnd)).2, s.there, s.tb, s.nt, fun p hp => s.frn p (List.mem_cons_of_mem _ hp)⟩
section
variable {X : Cx} {xc : XC} {W : WX} {fa : FE} {e : Expr} {p p2 p3 p4 : Pos}
theorem pe_srtJ (hc : X.calm = true) (hu : X.A.units + 64 < cLine) (hg : Gl X "sorted") (hm : X.mg "sorted" = none) (hg2 : Gl X "set") (hm2 : X.mg "set" = none) (ha : PE X e (RE X xc W fa)) (hn : nst e = true) :
    PE X (.Call (.Name "sorted" p) [.Call (.Name "set" p2) [e] [] p3] [] p4) (RE X xc W (srtF fa)) := by
  have hS := pe_callTy (pos := p3) (p := p2) (cr_setT (X := X) hc) hg2 hm2 PyProof.Rows.boot_set (pa_consJ ha pa_nilJ hn) (by decide) (by decide) (star_cons hn) rfl
  have hB := pe_callB (pos := p4) (p := p) (cr_srtT (X := X) hc hu) hg hm PyProof.Rows.boot_sorted (pa_cons hS pa_nil) (by decide) (by decide) rfl rfl
  refine PEimp hB fun σ H Q ⟨η, st, Hi, μ, φ, he, hs, hp⟩ => ?_
  refine rG_of he hs (Post_one ((Post.bind (R := RpS X.K) hp).mono fun x H1 ⟨w, st2, Hi2, μ2, e2, s2, rw', hp2⟩ => ?_))
  cases w with
  | ref n => exact hp2.elim
  | pv w =>
    have hp2 : Post X.K xc _ (RpS X.K) Hi2 μ2 φ (liftV (srtV w) st2) Q := hp2
    cases w with
    | list xs =>
      simp only [srtV] at hp2
      cases q : strsOf xs with
      | none => rw [q] at hp2; exact hp2.elim
      | some ss =>
        rw [q] at hp2
        simp only at hp2
        split at hp2
        · rename_i hl
          cases rw' with
          | lst a1 a2 a3 =>
            obtain ⟨b1, b2⟩ := strsOf_rel a2 q
            subst b1
            refine ⟨_, ss, rfl, s2.sub.seq a1, hl, fun es p pm hp => ⟨p, es, rfl, upd_same, fun p' hp' => ?_⟩⟩
            have s3 := s2.frame (o := SetTO X.w p es) hp
            obtain ⟨s4, e4⟩ := s3.alloc (o := .lst (((es.toList.map kS).mergeSort leS).map V.str)) hp'
            have en : (es.toList.map kS).mergeSort leS = sortS ss := sort_perm pm
            rw [en] at s4 e4 ⊢
            refine hp2 _ _ _ _ e4 s4.unfr (.lst (.of upd_same) (rps_strs fun x hx => ?_) ?_)
            · have hx' : x ∈ onceL ss [] := (List.mergeSort_perm _ _).mem_iff.mp hx
              rcases (onceL_mem ss [] x).mp hx' with h | h
              · exact b2 x h
              · simp at h
            · have := onceL_len ss []
              have h3 : (sortS ss).length = (onceL ss []).length := List.length_mergeSort _
              rw [List.length_map, h3]
              simp at this
              unfold sizeLine
              omega
        · exact hp2.elim
    | _ => exact hp2.elim
end
end J
end

section
set_option maxRecDepth 100000
set_option maxHeartbeats 2000000
/-! J7u: more readings: sorted of data, list(range(..)), join, split, a written dict's get, insert, what is not reached. -/
namespace J
open PySem PySem.Spec PyProof.Rows L2
variable [LamT]
section
variable {X : Cx} {xc : XC} {W : WX} {fa fb fi fe : FE} {a b e : Expr} {p p2 pos : Pos}
/-! ### sorted -/
def RZ (K : PySem.W.Frag) (Hi : Hp) (v : Value) (p : PV × V) : Prop := RelV p.2 v ∧ Rp K Hi p.1 p.2
theorem each_zip {K : PySem.W.Frag} {Hi : Hp} : ∀ {xs : List PV} {vs : List V} {its : List Value}, Rps K Hi xs vs → Vals vs its → PySem.W.EachIs (RZ K Hi) its (xs.zip vs)
  | _, _, _, .nil, .nil => .nil
  | _, _, _, .cons r t, .cons q u => .cons ⟨q, r⟩ (each_zip t u)
theorem each_back {K : PySem.W.Frag} {Hi : Hp} : ∀ {ps : List (PV × V)} {out : List Value}, PySem.W.EachIs (RZ K Hi) out ps → Vals (ps.map (·.2)) out ∧ Rps K Hi (ps.map (·.1)) (ps.map (·.2))
  | _, _, .nil => ⟨.nil, .nil⟩
  | _, _, .cons h t => ⟨.cons h.1 (each_back t).1, .cons h.2 (each_back t).2⟩
theorem zip_fst {K : PySem.W.Frag} {Hi : Hp} : ∀ {xs : List PV} {vs : List V}, Rps K Hi xs vs → (xs.zip vs).map (·.1) = xs
  | _, _, .nil => rfl
  | _, _, .cons _ t => by rw [List.zip_cons_cons, List.map_cons, zip_fst t]
theorem dataLe_fst : (PySem.W.dataLe false (fun p : PV × V => p.1)) = fun p q => PySem.W.dataLe false id p.1 q.1 := rfl
theorem sorts_one {prog : Program} {w : World} {A : Around} {s : Shared} {v : Value} {as : List Addr} (hu : A.units < cLine) (r : Reads s.heap v (.tuple []) as) : PySem.W.SortsAt prog w A s (PySem.W.dataKind s.heap [.tuple []]) [v] := by
  have hal : PySem.W.AllAlike [PyData.tuple []] := fun d hd d' hd' => by
    rw [List.mem_singleton.mp hd, List.mem_singleton.mp hd']
    rfl
  refine ⟨fun u hu => ?_, ⟨tuples' true, ?_, fun h2 => absurd h2 (by simp)⟩⟩
  · rw [List.mem_singleton.mp hu]
    exact ⟨_, PySem.W.dataKind_some hal (List.mem_singleton.mpr rfl) r⟩
  · intro E x y a b Q ha hb hq
    obtain ⟨d, as, hd, ra, rfl⟩ := PySem.W.dataKind_inv ha
    obtain ⟨d', as', hd', rb, rfl⟩ := PySem.W.dataKind_inv hb
    rw [List.mem_singleton.mp hd] at ra hq
    rw [List.mem_singleton.mp hd'] at rb hq
    have hq' : Q (PySem.W.dataLt (.tuple []) (.tuple [])) s := hq
    rw [PySem.W.dataLt_tuple] at hq'
    cases ra with
    | @tuple l o xs n _ _ h1 h2 h3 h4 =>
      cases rb with
      | @tuple l' o' xs' n' _ _ k1 k2 k3 k4 =>
        have n1 : xs.size = 0 := by simpa using SeqAt.ReadsAll.length _ _ _ h4
        have n2 : xs'.size = 0 := by simpa using SeqAt.ReadsAll.length _ _ _ k4
        refine PySem.W.kat_lt h1 h3 k1 k3 (PySem.W.katLex_alike [] [] 0 _ _ _ _ h4 k4 (by simp [PySem.W.alikeAll]) (by show A.units + (min (PyData.depthAll []) _) < cLine; have : PyData.depthAll [] = 0 := rfl; rw [this, Nat.zero_min]; omega) (fun hb _ x r t ex => by cases ex) (by rw [n1, n2]; simp) hq')
theorem cr_srtD (hu : X.A.units + 64 < cLine) : CallR X (.builtin "sorted") (rC1 X.K srtDV) := by
  intro pins s σ H vs us Q I r h
  obtain ⟨x, rfl, v, st, Hi, μ, φ, c, S, ra, e, q⟩ := h
  unfold srtDV at e
  split at e
  · rename_i xs
    split at e
    · rename_i hh
      obtain ⟨hl, hal, hso, hd⟩ := hh
      cases e
      cases ra with
      | @lst ad _ ws a1 a2 a3 =>
        obtain ⟨its, rv, pl, z⟩ := I.list (S.sub.seq a1)
        rw [Vals.ref1 r]
        have ez := each_zip a2 rv
        have hz := zip_fst a2
        have hlen : (xs.zip ws).length = xs.length := by rw [← List.length_map (f := (·.1)), hz]
        have er : PySem.W.EachIs (fun v (b : PV × V) => ∃ as, Reads s.heap v b.1 as) its (xs.zip ws) := ez.mono fun u w ⟨h1, h2⟩ => Dp.reads I w.1 w.2 u (h2.mono S.sub).dp h1
        refine PySem.W.sorted_data (R := RZ X.K Hi) (enc := fun p : PV × V => p.1) pl.isList ez er ?_ ?_ (by rw [hlen]; exact a3) (fun b hb => ?_) fun out ho eo => ?_
        · intro d hd' d' hd''
          rw [hz] at hd' hd''
          unfold alikeB at hal
          rw [List.all_eq_true] at hal
          exact List.all_eq_true.mp (hal d hd') d' hd''
        · unfold sortB at hso
          rw [Bool.or_eq_true, List.all_eq_true, List.all_eq_true] at hso
          rcases hso with h | h
          · left
            intro d hd'
            rw [hz] at hd'
            have := h d hd'
            split at this
            · rename_i y ys
              exact ⟨y, ys, rfl⟩
            · cases this
          · right
            intro d hd'
            rw [hz] at hd'
            have := h d hd'
            split at this
            · cases this
            · cases this
            · rename_i n1 n2
              exact ⟨n2, fun ys e => n1 ys e⟩
        · have hb' : b.1 ∈ xs := by rw [← hz]; exact List.mem_map.mpr ⟨b, hb, rfl⟩
          have := dle_depth b.1 8 (List.all_eq_true.mp hd _ hb')
          omega
        · obtain ⟨b1, b2⟩ := each_back eo
          have hs : ((xs.zip ws).mergeSort (PySem.W.dataLe false fun p : PV × V => p.1)).map (·.1) = xs.mergeSort (PySem.W.dataLe false id) := by
            rw [List.map_mergeSort (s := PySem.W.dataLe false id) (fun a _ b _ => by rw [dataLe_fst]), hz]
          rw [hs] at b2
          obtain ⟨ep, he'⟩ := PyProof.Rows.sortedAll_at s.heap its out.toArray
          have hlen2 : (((xs.zip ws).mergeSort (PySem.W.dataLe false fun p : PV × V => p.1)).map (·.2)).length ≤ sizeLine := by
            rw [List.length_map, List.length_mergeSort, hlen]; exact a3
          refine ⟨.ref _, upd H (s.heap.objs.size + 1) (.lst _), I.laid (t' := s.toks) (fun _ _ => PyProof.Rows.sortedAll_old) (Nat.le_succ _) ⟨hlen2, out, ep, b1, he'⟩, rfl, gives_lst S q b2 ?_ _ (I.hok.fresh (Nat.le_succ _))⟩
          rw [List.length_mergeSort]; exact a3
    · split at e
      · rename_i ho
        cases e
        have hx : xs = [.tuple []] := by
          unfold oneE at ho
          split at ho
          · rfl
          · cases ho
        subst hx
        cases ra with
        | @lst ad _ ws a1 a2 a3 =>
          obtain ⟨its, rv, pl, z⟩ := I.list (S.sub.seq a1)
          rw [Vals.ref1 r]
          cases a2 with
          | @cons _ _ w1 _ c1 c2 =>
            cases c2
            cases rv with
            | @cons _ u1 _ _ r1 r2 =>
              cases r2
              obtain ⟨as, rr⟩ := Dp.reads I _ _ _ (c1.mono S.sub).dp r1
              refine PySem.W.sorted_vals (vs := [u1]) pl.isList (sorts_one (as := as) ?_ (PyProof.Rows.Reads.keeps (fun _ _ => PySem.W.sorting_copy_old) rr)) (by simp; rw [sizeLine_eq]; decide) ?_
              · show X.A.units + 1 + 1 < cLine
                omega
              · obtain ⟨ep, he'⟩ := PyProof.Rows.sortedAll_at s.heap [u1] #[u1]
                have so : (PySem.W.sortVals (PySem.W.dataKind (PySem.W.sortingHeap (PySem.W.copyHeap s.heap [u1]) (s.heap.objs.size + 1) [u1]) [.tuple []]) false [u1] [u1]) = [u1] := by
                  unfold PySem.W.sortVals
                  rw [show ([u1].zip [u1]) = [(u1, u1)] from rfl, List.mergeSort_singleton]
                  rfl
                rw [so]
                refine ⟨.ref _, upd H (s.heap.objs.size + 1) (.lst [w1]), I.laid (t' := s.toks) (fun _ _ => PyProof.Rows.sortedAll_old) (Nat.le_succ _) ⟨by simp; rw [sizeLine_eq]; decide, [u1], ep, .cons r1 .nil, he'⟩, rfl, gives_lst S q (.cons c1 .nil) (by simp; rw [sizeLine_eq]; decide) _ (I.hok.fresh (Nat.le_succ _))⟩
      · cases e
  · cases e
theorem v1_start (f : PV → Option PV) {F : FE} {σ : L2.St} {H : Hp} {Q : VK} (hF : F = fun η st => (fa η st).bind fun x st => (asPV x st).bind fun v st => liftV (f v) st) (h : RE X xc W F σ H Q) : tCB (rC1 X.K f) (RA X xc W (consF fa nilF)) σ H Q := by
  subst hF
  obtain ⟨η, st, Hi, μ, φ, he, hs, hp⟩ := h
  refine rG_of he hs (Post_one ((Post.bind (R := RpS X.K) hp).mono fun x H1 ⟨w, st2, Hi2, μ2, e2, s2, rw', hp2⟩ => ⟨_, rfl, ?_⟩))
  cases w with
  | ref n => exact hp2.elim
  | pv w =>
    have hp2 : Post X.K xc _ (RpS X.K) Hi2 μ2 φ (liftV (f w) st2) Q := hp2
    cases e : f w with
    | none => rw [e] at hp2; exact hp2.elim
    | some c => rw [e] at hp2; exact ⟨w, st2, Hi2, μ2, φ, c, s2, rw', e, gives_of hp2⟩
theorem pe_srtDJ (hu : X.A.units + 64 < cLine) (hg : Gl X "sorted") (hm : X.mg "sorted" = none) (ha : PE X a (RE X xc W fa)) (hn : nst a = true) : PE X (.Call (.Name "sorted" p) [a] [] pos) (RE X xc W (srtDF fa)) :=
  PEimp (pe_callB (cr_srtD hu) hg hm PyProof.Rows.boot_sorted (pa_consJ ha pa_nilJ hn) (by decide) (by decide) (star_cons hn) rfl) fun σ H Q h => v1_start srtDV rfl h
/-! ### list(range(..)) -/
theorem rps_rg {K : PySem.W.Frag} {Hi : Hp} (f : Nat → Int) : ∀ l : List Nat, Rps K Hi (l.map fun k => PyData.int (f k)) (l.map fun k => V.int (f k))
  | [] => .nil
  | k :: l => .cons (.int _) (rps_rg f l)
theorem pe_lrngJ (hc : X.calm = true) (hg : Gl X "list") (hm : X.mg "list" = none) (hg2 : Gl X "range") (hm2 : X.mg "range" = none) (ha : PE X a (RE X xc W fa)) (hn : nst a = true) :
    PE X (.Call (.Name "list" p) [.Call (.Name "range" p2) [a] [] pos] [] q) (RE X xc W (lrngF fa)) := by
  refine PEimp (pe_listRg hc hg hm (prg_1 hg2 hm2 ha (star_cons hn)) rfl) fun σ H Q ⟨η, st, Hi, μ, φ, he, hs, hp⟩ => ?_
  refine rG_of he hs ((Post.bind (R := RpS X.K) hp).mono fun x H1 ⟨w, st2, Hi2, μ2, e2, s2, rw', hp2⟩ => ?_)
  cases w with
  | ref n => exact hp2.elim
  | pv w =>
    cases w with
    | int j =>
      cases rw'
      simp only [asPV, Res.bind, lrngV] at hp2
      split at hp2
      · rename_i ho
        unfold rngOk at ho
        simp only [Bool.and_eq_true, decide_eq_true_eq] at ho
        have e0 : (j - 0).toNat = j.toNat := by omega
        refine ⟨j, rfl, ⟨by omega, by omega, by omega, by omega, by omega⟩, fun q hq => ?_⟩
        refine gives_lst (xs := rngL 0 j) s2 (gives_of hp2) (rps_rg (fun k => 0 + (k : Int)) _) ?_ q hq
        unfold rngL
        rw [List.length_map, List.length_range, sizeLine_eq]
        omega
      · exact hp2.elim
    | _ => exact hp2.elim
theorem pe_mcpyJ (hg : Gl X "list") (hm : X.mg "list" = none) (ha : PE X a (RE X xc W fa)) (hn : nst a = true) : PE X (.Call (.Name "list" p) [a] [] pos) (RE X xc W (mcpyF fa)) := by
  refine PEimp (pe_callTy call_list_of hg hm PyProof.Rows.boot_list (pa_consJ ha pa_nilJ hn) (by decide) (by decide) (star_cons hn) rfl) fun σ H Q ⟨η, st, Hi, μ, φ, he, hs, hp⟩ => ?_
  refine rG_of he hs (Post_one ((Post.bind (R := RpS X.K) hp).mono fun x H1 ⟨w, st2, Hi2, μ2, e2, s2, rw', hp2⟩ => ?_))
  cases w with
  | ref n => exact hp2.elim
  | pv w =>
    simp only [asPV, Res.bind] at hp2
    split at hp2
    · cases rw' with
      | lst a1 a2 a3 =>
        refine ⟨_, _, rfl, .inl (s2.sub.seq a1), fun l hl => ?_⟩
        obtain ⟨s3, e3, g⟩ := s2.allocM hl a2 a3
        exact hp2 _ _ _ _ e3 s3 ⟨l, g, rfl⟩
    · cases rw' with
      | tup a1 a2 a3 =>
        refine ⟨_, _, rfl, .inr (sqT_mono s2.sub a1), fun l hl => ?_⟩
        obtain ⟨s3, e3, g⟩ := s2.allocM hl a2 a3
        exact hp2 _ _ _ _ e3 s3 ⟨l, g, rfl⟩
    · exact hp2.elim
/-- a call without arguments -/
theorem pe_callJ0 {x : Str} {k : Nat} {f : Addr} {fd : FuncData} {ps : List Str} {F : List SV → Store → Res SV} (hF : FnOk X.prog X.w X.K X.mg X.base (L2.CX X.prog X.w) k f fd ps (spJ X.K xc ps.length F)) (hr : Room k X.A) (hg : Gl X x) (hm : X.mg x = some (.ref f)) (hk : PySem.W.keepIn X.K (.ref f) = true)
    (hb : Binds X.K fd ps []) (tk : Takes X W) (hd : (x == ("__debug__" : Str)) = false) (hl : ∀ xs st, xs.length ≠ ps.length → F xs st = .bad) :
    PE X (.Call (.Name x p) [] [] pos) (RE X xc W (callF F nilF)) := by
  refine ⟨fun pins s σ H Q I ⟨η, st, Hi, μ, φ, he, hs, hp⟩ => ?_⟩
  refine wpAny_Call_Name_kw (ld_glob I hg hm ?_ hd)
  refine PySem.W.callWith_K0 I.kIn hk (run_fnS (us := []) (vs := []) (E := fun σ c d H => W c d σ H) hF hr hb (passAt tk σ) I .nil ?_)
  have hp : Post X.K xc _ (RpS X.K) Hi μ φ (F [] st) Q := hp
  refine ⟨?_, [], st, Hi, μ, φ, hs, .nil, hp⟩
  by_cases q : ([] : List SV).length = ps.length
  · exact q
  · rw [hl _ _ q] at hp; exact hp.elim
/-! ### texts -/
theorem fit_of {z : Str} (h : fitS z = true) : PyData.strOk z = true ∧ z.length ≤ sizeLine := by
  unfold fitS at h
  simp only [Bool.and_eq_true, decide_eq_true_eq] at h
  exact ⟨h.1, Nat.le_trans h.2 line_le⟩
/-- a method of a text with one argument -/
theorem pe_txtJ {id : String} {name : Str} {ap cp : Pos} {r : V → List V → Hp → VK → Prop} (f : Str → PV → Option PV) (slot : Slot "str" name id) (ty : typeOf (.builtin id) = pure (.type "method_descriptor")) (rule : MtR X id r)
    (g : ∀ y H1 z w c st Hi μ φ Q, Sto X.K st H1 Hi μ φ → Rp X.K Hi w y → f z w = some c → Gives X.K Hi st μ φ c Q → r (.str z) [y] H1 Q)
    (ha : PE X a (RE X xc W fa)) (hb : PE X b (RE X xc W fb)) (hn : nst b = true) (hba : attributeBase a name X.env (eval a X.env) = eval a X.env) (hl : (ap.endLine == cp.line) = true) :
    PE X (.Call (.Attribute a name ap) [b] [] cp) (RE X xc W (txtF f fa fb)) := by
  have hst : starEach [b] X.env = [(false, eval b X.env)] := by rw [star_cons hn]; rfl
  refine PEimp (pe_m1 slot ty rule ha hb hst hba hl) fun σ H Q ⟨η, st, Hi, μ, φ, he, hs', hp⟩ => ?_
  refine rG_of he hs' ((Post.bind (R := RpS X.K) hp).mono fun x H1 ⟨v, st1, Hi1, μ1, e1, s1, rx, hp1⟩ => ?_)
  split at hp1
  · rename_i z
    cases rx with
    | str _ o l =>
      refine ⟨⟨z, rfl⟩, rG_of (he.mono e1) s1 ((Post.bind (R := RpS X.K) hp1).mono fun y H2 ⟨w, st2, Hi2, μ2, e2, s2, rw', hp2⟩ => ?_)⟩
      cases w with
      | ref n => exact hp2.elim
      | pv w =>
        have hp2 : Post X.K xc _ (RpS X.K) Hi2 μ2 φ (liftV (f z w) st2) Q := hp2
        cases q : f z w with
        | none => rw [q] at hp2; exact hp2.elim
        | some c => rw [q] at hp2; exact g y H2 z w c st2 Hi2 μ2 φ Q s2 rw' q (gives_of hp2)
  · exact hp1.elim
theorem joinL_some {z : Str} {xs : List PV} {c : PV} (e : joinL z xs = some c) : ∃ ss, strsOf xs = some ss ∧ (ss.map (·.length)).sum + ss.length * z.length ≤ 16777216 ∧ fitS (Txt.join z ss) = true ∧ c = .str (Txt.join z ss) := by
  unfold joinL at e
  split at e
  · rename_i ss q
    split at e
    · rename_i hh
      cases e
      exact ⟨ss, q, by omega, hh.2, rfl⟩
    · cases e
  · cases e
theorem pe_joinJ {ap cp : Pos} (ha : PE X a (RE X xc W fa)) (hb : PE X b (RE X xc W fb)) (hn : nst b = true) (hba : attributeBase a "join" X.env (eval a X.env) = eval a X.env) (hl : (ap.endLine == cp.line) = true) :
    PE X (.Call (.Attribute a "join" ap) [b] [] cp) (RE X xc W (txtF joinV fa fb)) := by
  refine pe_txtJ joinV PySem.F.slot_str_join PySem.F.type_str_join mt_join (fun y H1 z w c st Hi μ φ Q s rw' e q => ?_) ha hb hn hba hl
  unfold joinV at e
  split at e
  · cases rw' with
    | lst a1 a2 a3 =>
      obtain ⟨ss, q1, q2, q3, rfl⟩ := joinL_some e
      obtain ⟨r1, r2⟩ := strsOf_rel a2 q1
      subst r1
      exact ⟨_, _, ss, rfl, rfl, .inl (s.sub.seq a1), q2, gives_here s q (.str _ (fit_of q3).1 (fit_of q3).2)⟩
  · cases rw' with
    | tup a1 a2 a3 =>
      obtain ⟨ss, q1, q2, q3, rfl⟩ := joinL_some e
      obtain ⟨r1, r2⟩ := strsOf_rel a2 q1
      subst r1
      exact ⟨_, _, ss, rfl, rfl, .inr (sqT_mono s.sub a1), q2, gives_here s q (.str _ (fit_of q3).1 (fit_of q3).2)⟩
  · cases e
theorem pe_splitJ {ap cp : Pos} (ha : PE X a (RE X xc W fa)) (hb : PE X b (RE X xc W fb)) (hn : nst b = true) (hba : attributeBase a "split" X.env (eval a X.env) = eval a X.env) (hl : (ap.endLine == cp.line) = true) :
    PE X (.Call (.Attribute a "split" ap) [b] [] cp) (RE X xc W (txtF splitV fa fb)) := by
  refine pe_txtJ splitV PySem.F.slot_str_split PySem.F.type_str_split mt_split (fun y H1 z w c st Hi μ φ Q s rw' e q => ?_) ha hb hn hba hl
  unfold splitV at e
  split at e
  · split at e
    · rename_i hh
      obtain ⟨h1, h2, h3, h4⟩ := hh
      cases rw'
      cases e
      refine ⟨_, _, rfl, rfl, h1, by rw [sizeLine_eq]; omega, fun p hp => gives_lst s q (rps_strs fun x hx => fit_of (List.all_eq_true.mp h3 x hx)) ?_ p hp⟩
      rw [List.length_map]
      exact Nat.le_trans h4 line_le
    · cases e
  · cases e
/-! ### {k: n, ..}.get(x, n) -/
theorem Post.fr {α β : Type} {K : PySem.W.Frag} {W' : Value → Option Addr → Hp → Prop} {R : Hp → List Addr → α → β → Prop} {Hi : Hp} {μ : List Addr} {φ : List (Addr × HO)} {q : Addr × HO} {r : Res α} {Q : β → Hp → Prop} (h : Post K xc W' R Hi μ φ r Q) : Post K xc W' R Hi μ (q :: φ) r Q := by
  cases r with
  | ok a st => exact fun x H' Hi' μ' e s r => h x H' Hi' μ' e s.unfr r
  | exc e st => exact fun c d H' Hi' μ' e s r => h c d H' Hi' μ' e s.unfr r
  | bad => exact h
def trsOf (ks : List (Str × Int)) : List (TE × TE) := ks.map fun k => (tC (.str k.1), tC (.int k.2))
def kvsOf (ks : List (Str × Int)) : List (Key × V) := ks.map fun k => (.inr k.1, .int k.2)
theorem tpairs_of : ∀ (ks : List (Str × Int)) (σ : L2.St) (H : Hp) (Q : List (V × V) → Hp → Prop), Q ((kvsOf ks).map fun kv => (kV kv.1, kv.2)) H → tPairs (trsOf ks) σ H Q
  | [], σ, H, Q, h => h
  | k :: ks, σ, H, Q, h => tpairs_of ks σ H (fun ps H3 => Q ((.str k.1, .int k.2) :: ps) H3) h
theorem merge_of : ∀ (ks : List (Str × Int)) (acc : List (Str × Int)), ((acc ++ ks).map (·.1)).Nodup → mergeK (kvsOf acc) (kvsOf ks) = kvsOf (acc ++ ks)
  | [], acc, _ => by rw [List.append_nil]; rfl
  | k :: ks, acc, h => by
    have e : mergeK (kvsOf acc) (kvsOf (k :: ks)) = mergeK (putK (kvsOf acc) (.inr k.1) (.int k.2)) (kvsOf ks) := rfl
    have hn : ((kvsOf acc).any fun kv => decide (kv.1 = (Sum.inr k.1 : Key))) = false := by
      rw [List.any_eq_false]
      intro kv hkv
      obtain ⟨m, hm, rfl⟩ := List.mem_map.mp hkv
      simp only [decide_eq_true_eq, Sum.inr.injEq]
      intro q
      rw [List.map_append, List.map_cons] at h
      have := (List.nodup_append.mp h).2.2 m.1 (List.mem_map.mpr ⟨m, hm, rfl⟩) k.1 List.mem_cons_self
      exact this q
    rw [e]
    unfold putK
    rw [if_neg (by rw [hn]; simp)]
    have e2 : kvsOf acc ++ [((.inr k.1 : Key), V.int k.2)] = kvsOf (acc ++ [k]) := by unfold kvsOf; rw [List.map_append]; rfl
    rw [e2, merge_of ks (acc ++ [k]) (by rw [List.append_assoc]; exact h), List.append_assoc]
    rfl
theorem val_of (z : Str) : ∀ ks : List (Str × Int), valV (kvsOf ks) (.inr z : Key) = (ks.lookup z).map V.int
  | [] => rfl
  | k :: ks => by
    rw [List.lookup_cons]
    by_cases h : z = k.1
    · rw [show (z == k.1) = true from by rw [h]; simp]
      exact valV_pos (by simp [h])
    · rw [show (z == k.1) = false from beq_eq_false_iff_ne.mpr h]
      exact (valV_neg (p := ((.inr k.1 : Key), V.int k.2)) (by simp; exact fun q => h q.symm)).trans (val_of z ks)
theorem pe_dgetJ {ks : List (Str × Int)} {keys : List (Option Expr)} {vals : List Expr} {d : Int} {j : Nat} {dp zp ap cp : Pos} (hu : X.A.units + 64 < cLine) (hP : PPs X dp keys vals (trsOf ks)) (hall : keys.all (·.isSome) = true) (hl : keys.length = vals.length) (h0 : keys ≠ []) (h15 : keys.length ≤ 15) (hk15 : ks.length ≤ 15)
    (hnd : (ks.map (·.1)).Nodup) (hb : PE X b (RE X xc W fb)) (hn : nst b = true) (hln : (ap.endLine == cp.line) = true) :
    PE X (.Call (.Attribute (.Dict keys vals dp) "get" ap) [b, .Constant (.int d) j zp] [] cp) (RE X xc W (dgetF ks d fb)) := by
  have t2 : starEach [b, .Constant (.int d) j zp] X.env = [(false, eval b X.env), (false, eval (.Constant (.int d) j zp) X.env)] := by rw [star_cons hn]; rfl
  have m : M2 X (.Dict keys vals dp) "get" ap b (.Constant (.int d) j zp) cp := ⟨rfl, by rw [t2]; rfl, hln, by rw [t2]; rfl⟩
  refine PEimp (pe_dget2 (by omega) (pe_disp hP hall hl h0 h15) hb pe_int m) fun σ H Q ⟨η, st, Hi, μ, φ, he, hs, hp⟩ => ?_
  intro p hpn
  refine tpairs_of ks σ _ _ ⟨upd_same, kvsOf ks, rfl, by unfold kvsOf; rw [List.length_map]; exact hk15, p, rfl, ?_, ?_⟩
  · exact .inl ⟨_, .inl upd_same⟩
  · have e0 : mergeK [] (kvsOf ks) = kvsOf ks := merge_of ks [] (by simpa using hnd)
    rw [e0]
    have s1 := (hs.frame (o := .dK []) hpn).reframe (u := .dK (kvsOf ks)) rfl
    refine rG_of he s1 ((Post.bind (R := RpS X.K) hp.fr).mono fun y H2 ⟨w, st2, Hi2, μ2, e2, s2, rw', hp2⟩ => ?_)
    have hH2 := (s2.fr (p, .dK (kvsOf ks)) List.mem_cons_self).1
    cases w with
    | ref n => exact hp2.elim
    | pv w =>
      cases w with
      | str z =>
        cases rw' with
        | str _ o l =>
          refine ⟨_, DGet.k (k := .inr z) hH2, ?_⟩
          rw [val_of]
          have hp2 : Post X.K xc _ (RpS X.K) Hi2 μ2 _ (.ok (.pv (.int ((ks.lookup z).getD d))) st2) Q := hp2
          have r : RpS X.K Hi2 μ2 (.pv (.int ((ks.lookup z).getD d))) ((Option.map V.int (ks.lookup z)).getD (.int d)) := by
            cases ks.lookup z <;> exact .int _
          exact hp2.here s2 r
      | _ => exact hp2.elim
/-! ### insert -/
theorem ps_insJ {o i : Expr} {ap cp : Pos} (ho : PE X o (RE X xc W fa)) (hi : PE X i (RE X xc W fi)) (he : PE X e (RE X xc W fe)) (hn0 : nst i = true) (hn : nst e = true) (hb : attributeBase o "insert" X.env (eval o X.env) = eval o X.env) (hl : (ap.endLine == cp.line) = true) :
    PS X (.Expr (.Call (.Attribute o "insert" ap) [i, e] [] cp) pos) (RSt X xc W (insS fa fi fe)) := by
  have h1 : ∀ env, starEach [i, e] env = (false, eval i env) :: starEach [e] env := fun env => star_cons hn0
  have h2 : ∀ env, starEach [e] env = (false, eval e env) :: starEach [] env := fun env => star_cons hn
  have hf : ((backTo cp (starEach [i, e] X.env)).all (fun x => !x.1) && (backToKw cp (keywordEach [] X.env)).all (fun x => x.1.isSome)
      && decide (([i, e] : List Expr).length + ([] : List Keyword).length + (if ([] : List Keyword).isEmpty then 0 else 1) < 30)) = true := by
    rw [h1, h2]; rfl
  have hp1 : (backTo cp (starEach [e] X.env)).any (·.1) = false := by rw [h2]; rfl
  refine PSimp (ps_expr (pe_bm PySem.F.plainAttrs_list PySem.F.slot_list_insert PySem.F.type_list_insert mt_insert ho (pa_consJ hi (pa_consJ he pa_nilJ hn) hn0) hb hf hl (h1 _) hp1)) fun D σ H ⟨η, st, Hi, μ, φ, he, hst, hp⟩ => ?_
  refine rG_of he hst ((PostS.thn he hp).mono fun x H1 ⟨xv, st1, Hi1, μ1, e1, s1, rx, hp1⟩ => ?_)
  have he1 := he.mono e1
  split at hp1
  · rename_i n
    split at hp1
    · rename_i ys hys
      obtain ⟨a, ha1, rfl⟩ := rx
      obtain ⟨q1, vs, q2, q3, q4⟩ := s1.cell n a _ ha1 hys
      refine ⟨.inl ⟨rfl, vs, .of q2⟩, rG_of he1 s1 ?_⟩
      refine (PostS.thn he1 hp1).mono fun ys H2 ⟨ws, st2, Hi2, μ2, e2, s2, rz, hp2⟩ => ?_
      split at hp2
      · rename_i k v
        split at hp2
        · rename_i xs hxs
          split at hp2
          · rename_i hh
            obtain ⟨hlt, k0, k1⟩ := hh
            obtain ⟨q1, vs, q2, q3, q4⟩ := s2.cell n a _ (e2.get ha1) hxs
            have hlt2 := Nat.lt_of_lt_of_le hlt line_le
            cases rz with
            | cons ry t => cases t with
              | @cons _ _ z _ rv t =>
                cases t
                cases ry
                refine ⟨a, vs, k, z, rfl, rfl, q2, by rw [← q3.length]; exact hlt2, k0, by omega, ?_⟩
                refine hp2.nxt (s2.put (e2.get ha1) hxs (((q3.take _).append (.cons rv .nil)).append (q3.drop _)) ?_) (he1.mono e2)
                simp only [List.length_append, List.length_take, List.length_drop, List.length_singleton]
                omega
          · exact hp2.elim
        · exact hp2.elim
      · exact hp2.elim
    · exact hp1.elim
  · exact hp1.elim
end
end J
end

section
set_option maxRecDepth 100000
set_option maxHeartbeats 4000000
/-! J3k: sorted(xs, key=f), f a def of the text. -/
namespace J
open PySem PySem.Spec PyProof.Rows L2
section
variable {prog : Program} {w : World} {A : Around} {E : Value → Shared → Prop} {s : Shared} {a kS : Addr} {vs : List Value} {keys : Array Value} {e e1 : Nat} {P : PySem.Fin → Shared → Prop}
/-- the heap behind a sort: the keys let go, the list sorted -/
def keysGone (h : Heap) (kS : Addr) : Heap := h.update kS (Obj.mapSeq fun _ => (#[] : Array Value))
def sortEnd (h : Heap) (kS a : Addr) (out : List Value) : Heap := (keysGone h kS).update a (Obj.mapSeq fun _ => out.toArray)
theorem key_tailJ {st : SortSt} {out : List Value} (hk : s.heap.get? kS = some (seqObj "list" keys e)) (ha : s.heap.get? a = some (seqObj "list" #[] e1)) (hka : kS ≠ a) (hsz : keys.size ≤ sizeLine) (hz : out.length ≤ sizeLine) (hfl : failedOf st = none) (ho : ((arrOf st).map (·.2)) = out.toArray)
    (h : ∀ tk, P (.done (.ret .none)) { s with heap := sortEnd s.heap kS a out, toks := tk }) : wpAny (model prog w) A (ksk_tail a false e1 (.ref kS) st) P E s := by
  have t1 := Heap.SameBut.update s.heap kS (Obj.mapSeq fun _ => (#[] : Array Value))
  have ha1 : (s.heap.update kS (Obj.mapSeq fun _ => (#[] : Array Value))).get? a = some (seqObj "list" #[] e1) := (t1.2 a (Ne.symm hka)).trans ha
  unfold ksk_tail
  try dsimp only
  simp only [Bool.false_eq_true, if_false]
  rw [ho]
  refine wpAny_bind (listUpdate_at hk rfl (wpAny_bind (wpAny_letGo (wpAny_bind (seqEpoch_at ha1 rfl (wpAny_bind (listUpdate_at ha1 rfl ?_ (Nat.zero_le _) (by rw [List.size_toArray]; exact Nat.le_succ_of_le hz))))))) hsz (Nat.zero_le _))
  rw [hfl]
  simp only [bne_self_eq_false, Bool.false_eq_true, if_false]
  exact wpAny_pure (h _)
theorem key_endJ {κ : PyProof.Rows.KeyKind} (hk : s.heap.get? kS = some (seqObj "list" keys e)) (ha : s.heap.get? a = some (seqObj "list" #[] e1)) (hka : kS ≠ a) (S : PySem.W.SortsAt prog w A s κ keys.toList) (hsz : keys.size = vs.length) (hZ : vs.length ≤ sizeLine)
    (h : ∀ tk, P (.done (.ret .none)) { s with heap := sortEnd s.heap kS a (PySem.W.sortVals κ false keys.toList vs), toks := tk }) : wpAny (model prog w) A (ksk_end a false vs.toArray e1 (.ref kS) keys) P E s := by
  obtain ⟨kd, h1, h2⟩ := S.kind
  have hkl : keys.toList.length = vs.length := by rw [Array.length_toList, hsz]
  have hK : PyProof.Rows.KeysOf κ (keys.zip vs.toArray) := PySem.W.keysOf_zip S.keys
  have hol : (PySem.W.sortVals κ false keys.toList vs).length ≤ sizeLine := by rw [PySem.W.sortVals_length false hkl]; exact hZ
  have hss : (keys.zip vs.toArray).size = vs.length := by rw [Array.size_zip, hsz, List.size_toArray, Nat.min_self]
  have fin : ∀ st' : SortSt, (arrOf st').Perm (keys.zip vs.toArray) → SortedToK κ (arrOf st') (keys.zip vs.toArray).size → Stable κ (arrOf st') (keys.zip vs.toArray) → ((arrOf st').map (·.2)) = (PySem.W.sortVals κ false keys.toList vs).toArray := by
    intro st' hp hs ht
    have q := PySem.W.sort_out (rev := false) (keys := keys) (items := vs.toArray) (xs := arrOf st') (κ := κ) hK hp hs ht
    have q := congrArg List.toArray q
    rwa [Array.toArray_toList] at q
  have hks : keys.size ≤ sizeLine := by rw [hsz]; exact hZ
  unfold ksk_end
  try dsimp only
  simp only [Bool.false_eq_true, if_false]
  by_cases hl2 : vs.toArray.size < 2
  · rw [if_pos hl2, if_pos hl2]
    refine wpAny_bind (wpAny_pure ?_)
    rw [StateT.run_pure]
    refine wpAny_bind (wpAny_pure ?_)
    try dsimp only
    refine key_tailJ (st := SortSt.mk' general' (keys.zip vs.toArray) #[] 7 none) hk ha hka hks hol rfl (fin _ (Array.Perm.refl _) (fun i j hij hj => ?_) (Stable.refl _)) h
    rw [hss] at hj
    rw [List.size_toArray] at hl2
    obtain rfl : i = j := by omega
    exact KeyOrd.kle_refl _
  · rw [if_neg hl2, if_neg hl2]
    rw [List.size_toArray] at hl2
    refine wpAny_bind (h2 (by omega) _ (wpAny_bind (wpAny_mono (H.wpS_sortRunsSt (κ := κ) (kd := kd) (a₀ := keys.zip vs.toArray) (st := SortSt.mk' kd (keys.zip vs.toArray) #[] 7 none)
      (Q := fun _ st' => failedOf st' = none ∧ ((arrOf st').map (·.2)) = (PySem.W.sortVals κ false keys.toList vs).toArray) h1 hK ⟨Array.Perm.refl _, rfl, rfl⟩ rfl (Stable.refl _) (by rw [hss]; omega) fun st' a1 a2 a3 a4 => ⟨a2, fin st' a1 a3 a4⟩) ?_ fun _ _ z => z)))
    rintro ⟨⟨⟩, st'⟩ s' ⟨rfl, hf, ho⟩
    try dsimp only at ho ⊢
    exact key_tailJ hk ha hka hks hol hf ho h
end
end J
end

section
set_option maxRecDepth 100000
set_option maxHeartbeats 4000000
/-! J7v: sorted(xs, key=f) as a reading. -/
namespace J
open PySem PySem.Spec PyProof.Rows L2
variable [LamT]
/-- one object, just so -/
def Just (a : Addr) (o : Obj) : HO := .ext fun h => h.get? a = some o
theorem just_ok {P : Program} {w : World} {H : Hp} {h : Heap} {a : Addr} {o : Obj} (e : h.get? a = some o) : ObjOk P w H h a (Just a o) := ⟨e, ⟨o, e⟩, fun h1 h2 p k => k o p⟩
/-- a list, just so, is no code object -/
theorem just_nc {a : Addr} {items : Array Value} {e : Nat} : ∀ c q, Just a (seqObj "list" items e) ≠ LamX.CodeO c q := by
  intro c q h
  unfold Just LamX.CodeO at h
  have hf := HO.ext.inj h
  let hp : Heap := { objs := (List.replicate a ({ cls := .none, data := .plain } : Obj) ++ [seqObj "list" items e]).toArray }
  have h1 : hp.get? a = some (seqObj "list" items e) := by
    unfold Heap.get?
    have : hp.objs[a]? = some (seqObj "list" items e) := by
      show (List.toArray _)[a]? = _
      rw [List.getElem?_toArray, List.getElem?_append_right (by simp)]
      simp
    rw [this]
  obtain ⟨oc, vs, t, g1, g2, _⟩ := (congrFun hf hp).mp h1
  have key : ∀ b o, hp.get? b = some o → o = { cls := .none, data := .plain } ∨ o = seqObj "list" items e := by
    intro b o hb
    have hm : hp.objs[b]? = some o := by
      unfold Heap.get? at hb
      split at hb
      · cases hb
      · exact hb
    have hm : (List.replicate a ({ cls := .none, data := .plain } : Obj) ++ [seqObj "list" items e])[b]? = some o := by rw [← List.getElem?_toArray]; exact hm
    rcases List.mem_append.mp (List.mem_of_getElem? hm) with q | q
    · exact .inl (List.mem_replicate.mp q).2
    · exact .inr (List.mem_singleton.mp q)
  rcases key c oc g1 with e1 | e1
  · rw [e1] at g2; cases g2
  · rw [e1] at g2; cases g2
def RZK (K : PySem.W.Frag) (Hi : Hp) (v : Value) (p : (PV × V) × PV) : Prop := RelV p.1.2 v ∧ Rp K Hi p.1.1 p.1.2
theorem each_zipK {K : PySem.W.Frag} {Hi : Hp} : ∀ {xs : List PV} {vs : List V} {its : List Value} {ks : List PV}, Rps K Hi xs vs → Vals vs its → ks.length = xs.length → PySem.W.EachIs (RZK K Hi) its ((xs.zip vs).zip ks)
  | _, _, _, [], .nil, .nil, _ => .nil
  | _, _, _, _ :: _, .nil, .nil, h => by simp at h
  | _, _, _, [], .cons _ _, .cons _ _, h => by simp at h
  | _, _, _, k :: ks, .cons r t, .cons q u, h => .cons ⟨q, r⟩ (each_zipK t u (by simpa using h))
theorem each_backK {K : PySem.W.Frag} {Hi : Hp} : ∀ {ps : List ((PV × V) × PV)} {out : List Value}, PySem.W.EachIs (RZK K Hi) out ps → Vals (ps.map (·.1.2)) out ∧ Rps K Hi (ps.map (·.1.1)) (ps.map (·.1.2))
  | _, _, .nil => ⟨.nil, .nil⟩
  | _, _, .cons h t => ⟨.cons h.1 (each_backK t).1, .cons h.2 (each_backK t).2⟩
theorem zipK_snd {K : PySem.W.Frag} {Hi : Hp} : ∀ {xs : List PV} {vs : List V} {ks : List PV}, Rps K Hi xs vs → ks.length = xs.length → ((xs.zip vs).zip ks).map (·.2) = ks
  | _, _, [], .nil, _ => rfl
  | _, _, _ :: _, .nil, h => by simp at h
  | _, _, [], .cons _ _, h => by simp at h
  | _, _, k :: ks, .cons r t, h => by
    rw [List.zip_cons_cons, List.zip_cons_cons, List.map_cons, zipK_snd t (by simpa using h)]
theorem zipK_fst {K : PySem.W.Frag} {Hi : Hp} : ∀ {xs : List PV} {vs : List V} {ks : List PV}, Rps K Hi xs vs → ks.length = xs.length → ((xs.zip vs).zip ks).map (fun p => (p.1.1, p.2)) = xs.zip ks
  | _, _, [], .nil, _ => rfl
  | _, _, _ :: _, .nil, h => by simp at h
  | _, _, [], .cons _ _, h => by simp at h
  | _, _, k :: ks, .cons r t, h => by
    rw [List.zip_cons_cons, List.zip_cons_cons, List.zip_cons_cons, List.map_cons, zipK_fst t (by simpa using h)]
theorem alike_of {ks : List PV} (h : alikeB ks = true) : PySem.W.AllAlike ks := by
  intro d hd d' hd'
  unfold alikeB at h
  rw [List.all_eq_true] at h
  exact List.all_eq_true.mp (h d hd) d' hd'
theorem sortable_of {ks : List PV} (h : sortB ks = true) : PySem.W.Sortable ks := by
  unfold sortB at h
  rw [Bool.or_eq_true, List.all_eq_true, List.all_eq_true] at h
  rcases h with h | h
  · left
    intro d hd
    have := h d hd
    split at this
    · rename_i y ys; exact ⟨y, ys, rfl⟩
    · cases this
  · right
    intro d hd
    have := h d hd
    split at this
    · cases this
    · cases this
    · rename_i n1 n2; exact ⟨n2, fun ys e => n1 ys e⟩
section
variable {X : Cx} {xc : XC} {W : WX} {fa : FE} {a : Expr} {p p2 pos kpos : Pos}
theorem keys_len {F : List SV → Store → Res SV} : ∀ {xs : List PV} {st st' : Store} {ks : List PV}, keysJ F xs st = .ok ks st' → ks.length = xs.length
  | [], st, st', ks, h => by cases h; rfl
  | x :: xs, st, st', ks, h => by
    unfold keysJ at h
    split at h
    · rename_i k st1 _
      cases q : keysJ F xs st1 with
      | ok ks2 st2 => rw [q] at h; cases h; simp [keys_len q]
      | exc e st2 => rw [q] at h; cases h
      | bad => rw [q] at h; cases h
    · cases h
theorem each_reads {pins : List (Addr × Obj)} {σ : L2.St} {H' Hi' : Hp} {s' : Shared} (I' : Inv X pins σ H' s') (d : ∀ k v, Rp X.K Hi' k v → Dp X.K H' v k) : ∀ {ks : List PV} {kvs : List V} {us : List Value}, Rps X.K Hi' ks kvs → Vals kvs us → PySem.W.EachIs (fun v k => ∃ as, Reads s'.heap v k as) us ks
  | _, _, _, .nil, .nil => .nil
  | _, _, _, .cons r t, .cons q u => .cons (Dp.reads I' _ _ _ (d _ _ r) q) (each_reads I' d t u)
theorem keys_exc {F : List SV → Store → Res SV} {e : EV} {st' : Store} : ∀ (xs : List PV) {st : Store}, keysJ F xs st ≠ .exc e st'
  | [], st => fun h => by cases h
  | x :: xs, st => fun h => by
    unfold keysJ at h
    split at h
    · rename_i k st1 _
      cases q : keysJ F xs st1 with
      | ok ks2 st2 => rw [q] at h; cases h
      | exc e2 st2 =>
        rw [q] at h
        cases h
        exact keys_exc xs q
      | bad => rw [q] at h; cases h
    · cases h
def rSrtK (K : PySem.W.Frag) (xc : XC) (F : List SV → Store → Res SV) (f : Addr) : List V → List V → Hp → VK → Prop := fun vs zs H Q => zs = [.ref f] ∧ ∃ l xs ws st Hi μ φ, vs = [.ref l] ∧ Sto K st H Hi μ φ ∧ SqL K Hi l ws ∧ Rps K Hi xs ws ∧ xs.length ≤ sizeLine ∧
  Post K xc (fun _ _ _ => False) (RpS K) Hi μ φ ((keysJ F xs st).bind fun ks st => finK xs ks st) Q
theorem cr_srtK {k : Nat} {f : Addr} {fd : FuncData} {ps : List Str} {F : List SV → Store → Res SV} (hu : X.A.units + 64 < cLine) (hF : FnOk X.prog X.w X.K X.mg X.base (L2.CX X.prog X.w) k f fd ps (spJ X.K xc ps.length F)) (hr : Room (k + 2) X.A) (hb : Binds X.K fd ps []) (h1 : ps.length = 1) :
    CallRK X (.builtin "sorted") [Str.ofString "key"] (rSrtK X.K xc F f) := by
  intro pins s σ H vs zs us ws Q I rv rz h
  obtain ⟨rfl, l, xs, vv, st, Hi, μ, φ, rfl, hs, hl, hx, hz, hp⟩ := h
  obtain rfl := Vals.ref1 rv
  obtain rfl := Vals.ref1 rz
  obtain ⟨its, rI, pl, _⟩ := I.list (hs.sub.seq hl)
  have hvl : its.length = xs.length := by rw [← rI.length, ← hx.length]
  have hZ : its.length ≤ sizeLine := by rw [hvl]; exact hz
  show wpAny _ _ (call (.builtin "sorted") [.ref l] [(Str.ofString "key", .ref f)]) _ _ _
  refine PySem.W.sorted_of_sort pl.isList hZ (ksk_s1 _ _) (fun _ => ksk_l1 _ _) fun E' => ?_
  rw [ksk_t1]
  have ho := PySem.W.copyHeap_at s.heap its
  have hold : ∀ b u, s.heap.get? b = some u → (PySem.W.copyHeap s.heap its).get? b = some u := fun b u e => PySem.W.copyHeap_old e
  generalize PySem.W.copyHeap s.heap its = g0 at ho hold
  unfold ksk_tree
  refine wpAny_bind (listItems_at ho rfl (wpAny_bind (listUpdate_at ho rfl ?_ (by rw [List.size_toArray]; exact hZ) (Nat.zero_le _))))
  obtain ⟨e1, ho1⟩ : ∃ e1, (g0.update (s.heap.objs.size + 1) (Obj.mapSeq fun _ => (#[] : Array Value))).get? (s.heap.objs.size + 1) = some (seqObj "list" #[] e1) := ⟨_, get?_update_seq ho fun _ => #[]⟩
  have hold1 : ∀ b u, s.heap.get? b = some u → (g0.update (s.heap.objs.size + 1) (Obj.mapSeq fun _ => (#[] : Array Value))).get? b = some u := fun b u e =>
    ((Heap.SameBut.update g0 (s.heap.objs.size + 1) (Obj.mapSeq fun _ => (#[] : Array Value))).2 b (Nat.ne_of_lt (Nat.lt_succ_of_lt (Heap.lt_size e)))).trans (hold b u e)
  generalize g0.update (s.heap.objs.size + 1) (Obj.mapSeq fun _ => (#[] : Array Value)) = g1 at ho1 hold1
  refine wpAny_bind (seqEpoch_at ho1 rfl (wpAny_bind (wpAny_newTuple ?_ hZ)))
  have ho2 := Heap.get?_push_of_some { cls := .type "tuple", data := .seq its.toArray } ho1
  have hold2 : ∀ b u, s.heap.get? b = some u → (g1.push { cls := .type "tuple", data := .seq its.toArray }).get? b = some u := fun b u e => Heap.get?_push_of_some _ (hold1 b u e)
  generalize g1.push { cls := .type "tuple", data := .seq its.toArray } = g2 at ho2 hold2
  have nA : H (s.heap.objs.size + 1) = none := I.hok.fresh (Nat.le_succ _)
  have I1 : Inv X pins σ (upd H (s.heap.objs.size + 1) (Just (s.heap.objs.size + 1) (seqObj "list" #[] e1))) { s with heap := g2 } := I.laid (t' := s.toks) hold2 (Nat.le_succ _) (just_ok ho2)
  have hlt2 : s.heap.objs.size + 1 < g2.objs.size := Heap.lt_size ho2
  refine wpAny_bind (wpAny_newList ?_ (Nat.zero_le _))
  have hkS : (g2.push { cls := .type "list", data := .seq #[] }).get? g2.objs.size = some (seqObj "list" #[] 0) := Heap.get?_push_size _ rfl
  have hka : g2.objs.size ≠ s.heap.objs.size + 1 := Nat.ne_of_gt hlt2
  have nK : (upd H (s.heap.objs.size + 1) (Just (s.heap.objs.size + 1) (seqObj "list" #[] e1))) g2.objs.size = none := I1.hok.fresh (Nat.le_refl _)
  have I2 := I1.laid (t' := s.toks) (h' := g2.push { cls := .type "list", data := .seq #[] }) (fun b u e => Heap.get?_push_of_some _ e) (Nat.le_refl _) (just_ok hkS)
  have S1 := (hs.frame (o := Just (s.heap.objs.size + 1) (seqObj "list" #[] e1)) nA).frame (o := Just g2.objs.size (seqObj "list" #[] 0)) nK
  refine wpAny_holding ?_
  show wpAny _ _ (ksk_rest _ _ _ _ _ (.ref g2.objs.size)) _ _ { s with heap := g2.push { cls := .type "list", data := .seq #[] } }
  generalize hs3 : ({ s with heap := g2.push { cls := .type "list", data := .seq #[] } } : Shared) = s3 at I2 ⊢
  generalize g2.objs.size = kS at hka I2 S1 ⊢
  generalize s.heap.objs.size + 1 = aL at hka I2 S1 ⊢
  clear hs3 I1 nA nK hkS hlt2 ho1 hold1 ho2 hold2 ho hold
  unfold ksk_rest
  refine wpAny_bind (wpAny_rule ?_)
  rw [List.forIn_toArray]
  refine wpAny_bind (ksk_fold (fun i s' => ∃ H' st' Hi' μ' ks kA e kvs, Inv X pins σ H' s' ∧ Sto X.K st' H' Hi' μ' ((kS, Just kS (seqObj "list" kA e)) :: (aL, Just aL (seqObj "list" #[] e1)) :: φ) ∧ Ext Hi μ Hi' μ' ∧ ks.length = i ∧ Vals kvs kA.toList ∧ Rps X.K Hi' ks kvs ∧
    Post X.K xc (fun _ _ _ => False) (RpS X.K) Hi' μ' φ ((keysJ F (xs.drop i) st').bind fun k2 st2 => finK xs (ks ++ k2) st2) Q) its 0 _
    ⟨_, st, Hi, μ, [], #[], 0, [], I2, S1, Ext.refl _ _, rfl, .nil, .nil, by rw [List.drop_zero]; exact hp⟩ ?step ?done)
  case step =>
    rintro j x s' hjx ⟨H', st', Hi', μ', ks, kA, e, kvs, I', S', E1, hks, rk, rp, hpo⟩
    rw [Nat.zero_add] at hks hpo
    have hj : j < its.length := (List.getElem?_eq_some_iff.mp hjx).1
    have hjv : j < vv.length := by rw [rI.length]; exact hj
    have hjxs : j < xs.length := by rw [← hvl]; exact hj
    obtain ⟨v, hv1, hv2⟩ := hx.get (i := j) (x := xs[j]) (by simp [hjxs])
    obtain ⟨u, hu1, hu2⟩ := rI.get hv1
    rw [hjx] at hu1
    cases hu1
    rw [List.drop_eq_getElem_cons hjxs] at hpo
    unfold keysJ at hpo
    cases q : F [.pv xs[j]] st' with
    | bad => rw [q] at hpo; exact hpo.elim
    | exc ex st1 => rw [q] at hpo; exact hpo.elim
    | ok sv st1 =>
      rw [q] at hpo
      cases sv with
      | ref n => exact hpo.elim
      | pv kk =>
        simp only at hpo
        have T : wpAny (model X.prog X.w) X.A.in1.in1 (call (.ref f) [x]) (EP X pins σ (fun z H2 => ∃ Hi2 μ2, Ext Hi' μ' Hi2 μ2 ∧ Sto X.K st1 H2 Hi2 μ2 ((kS, Just kS (seqObj "list" kA e)) :: (aL, Just aL (seqObj "list" #[] e1)) :: φ) ∧ Rp X.K Hi2 kk z)) (fun _ _ => False) s' := by
          have b := hb s' [x] I'.kIn (by rw [List.append_nil]; exact h1.symm)
          rw [List.append_nil] at b
          refine wpAny_call (codeAny_mono (hF.run X.A.in1.in1 X.stack s' H' ⟨[x], []⟩ [x] [v] (fun z H2 => ∃ Hi2 μ2, Ext Hi' μ' Hi2 μ2 ∧ Sto X.K st1 H2 Hi2 μ2 ((kS, Just kS (seqObj "list" kA e)) :: (aL, Just aL (seqObj "list" #[] e1)) :: φ) ∧ Rp X.K Hi2 kk z) (fun _ _ _ => False) (Room.in1 (Room.in1 hr)) I'.env0.in1.in1 b (.cons hu2 .nil)
            ⟨h1.symm, [.pv xs[j]], st', Hi', μ', _, S', .cons (show RpS X.K Hi' μ' (.pv xs[j]) v from hv2.mono E1.h) .nil, by rw [q]; exact fun z H2 Hi2 μ2 e2 s2 r2 => ⟨Hi2, μ2, e2, s2, r2⟩⟩) fun r s'' hq => ?_)
          cases r with
          | error er => obtain ⟨_, _, _, _, _, _, _, _, _, _, _, _, hE⟩ := hq; exact hE.elim
          | ok fl =>
            cases fl with
            | ret u => exact I'.after hq
            | next => exact False.elim hq
            | brk => exact False.elim hq
            | cont => exact False.elim hq
        refine wpAny_bind (wpAny_attempt (wpAny_mono T (fun kv s'' he => ?_) fun _ _ hF => hF.elim))
        obtain ⟨z, H2, J2, rz, Hi2, μ2, e2, s2, r2⟩ := he
        try dsimp only
        have hk : s''.heap.get? kS = some (seqObj "list" kA e) := (J2.hok kS _ (s2.fr (kS, _) List.mem_cons_self).1).1
        have hsz : kA.size = j := by
          have q1 := rk.length
          have q2 := rp.length
          have q3 : kA.toList.length = kA.size := by simp
          have q4 : ks.length = j := hks
          have q5 : kvs.length = kA.toList.length := q1
          have q6 : ks.length = kvs.length := q2
          omega
        refine wpAny_bind (listUpdate_at hk rfl ?_ (by rw [hsz]; omega) (by rw [Array.size_push, hsz]; omega))
        obtain ⟨e', hk'⟩ : ∃ e', (s''.heap.update kS (Obj.mapSeq (·.push kv))).get? kS = some (seqObj "list" (kA.push kv) e') := ⟨_, get?_update_seq hk (·.push kv)⟩
        have keep : ∀ b u, b ≠ kS → s''.heap.get? b = some u → (s''.heap.update kS (Obj.mapSeq (·.push kv))).get? b = some u := fun b u hb e => ((Heap.SameBut.update s''.heap kS (Obj.mapSeq (·.push kv))).2 b hb).trans e
        have mu : Mut (H2 kS) := by rw [(s2.fr (kS, _) List.mem_cons_self).1]; trivial
        have J3 := J2.write (t' := s''.toks) (o := Just kS (seqObj "list" (kA.push kv) e')) mu (.inl rfl) keep ⟨_, hk'⟩ (just_ok hk')
        refine wpAny_pure ⟨rfl, _, st1, Hi2, μ2, ks ++ [kk], kA.push kv, e', kvs ++ [z], J3, s2.reframe rfl rfl just_nc, E1.trans e2, ?_, ?_, (rp.mono e2.h).append (.cons r2 .nil), ?_⟩
        · rw [List.length_append, List.length_singleton, hks, Nat.zero_add]
        · rw [Array.toList_push]
          exact rk.append (.cons rz .nil)
        · have hpo2 := hpo.ext e2
          rw [Nat.zero_add]
          have eq : ((keysJ F (xs.drop (j + 1)) st1).bind fun ks2 st => .ok (kk :: ks2) st).bind (fun k2 st2 => finK xs (ks ++ k2) st2) = (keysJ F (xs.drop (j + 1)) st1).bind fun k2 st2 => finK xs ((ks ++ [kk]) ++ k2) st2 := by
            cases keysJ F (xs.drop (j + 1)) st1 <;> simp [Res.bind]
          rw [← eq]
          exact hpo2
  case done =>
    rintro s' ⟨H', st', Hi', μ', ks, kA, e, kvs, I', S', E1, hks, rk, rp, hpo⟩
    rw [Nat.zero_add, hvl] at hks
    rw [Nat.zero_add, hvl, List.drop_length] at hpo
    unfold keysJ at hpo
    simp only [Res.bind, List.append_nil] at hpo
    unfold finK at hpo
    split at hpo
    · rename_i hc
      obtain ⟨c1, c2, c3, c4⟩ := hc
      try dsimp only
      have hk : s'.heap.get? kS = some (seqObj "list" kA e) := (I'.hok kS _ (S'.fr (kS, _) List.mem_cons_self).1).1
      have ha : s'.heap.get? aL = some (seqObj "list" #[] e1) := (I'.hok aL _ (S'.fr (aL, _) (List.mem_cons_of_mem _ List.mem_cons_self)).1).1
      have hsz : kA.size = its.length := by
        have q1 := rk.length
        have q2 := rp.length
        have q3 : kA.toList.length = kA.size := by simp
        have q4 : ks.length = xs.length := hks
        have q5 : kvs.length = kA.toList.length := q1
        have q6 : ks.length = kvs.length := q2
        omega
      have hk' : PySem.W.EachIs (fun v k => ∃ as, Reads s'.heap v k as) kA.toList ks := each_reads I' (fun _ _ r => (r.mono S'.sub).dp) rp rk
      refine wpAny_bind (listItems_at hk rfl (key_endJ (κ := PySem.W.dataKind s'.heap ks) hk ha hka (PySem.W.SortsAt.data (s := s') hk' (alike_of c2) (sortable_of c3) (fun d hd => ?_)) hsz hZ fun tk => ⟨rfl, ?_⟩))
      · have := dle_depth d 8 (List.all_eq_true.mp c4 d hd)
        show X.A.units + 1 + 1 + d.depth < cLine
        omega
      · have hlen : ks.length = xs.length := hks
        have ko : PySem.W.KeyedOut false (((xs.zip vv).zip ks).map (·.2)) its (PySem.W.sortVals (PySem.W.dataKind s'.heap ks) false kA.toList its) := by
          rw [zipK_snd hx hlen]
          exact ⟨s'.heap, kA.toList, alike_of c2, rfl, hk'⟩
        have eo := PySem.W.keyedOut_each (·.2) ko (each_zipK hx rI hlen)
        have oln := ko.length (by rw [List.length_map, List.length_zip, List.length_zip, ← hx.length, hlen, Nat.min_self, Nat.min_self, hvl])
        generalize PySem.W.sortVals (PySem.W.dataKind s'.heap ks) false kA.toList its = out at eo oln
        obtain ⟨b1, b2⟩ := each_backK eo
        have hfst : (((xs.zip vv).zip ks).mergeSort (PySem.W.dataLe false (·.2))).map (·.1.1) = byKeys xs ks := by
          unfold byKeys
          have e1 : (((xs.zip vv).zip ks).mergeSort (PySem.W.dataLe false (·.2))).map (fun p => (p.1.1, p.2)) = ((xs.zip ks).mergeSort fun p q => PySem.W.dataLe false id p.2 q.2) := by
            have m := List.map_mergeSort (r := PySem.W.dataLe false (fun p : (PV × V) × PV => p.2)) (s := fun (p q : PV × PV) => PySem.W.dataLe false id p.2 q.2) (f := fun p : (PV × V) × PV => (p.1.1, p.2)) (l := (xs.zip vv).zip ks) (fun a _ b _ => rfl)
            rw [zipK_fst hx hlen] at m
            exact m
          rw [← e1, List.map_map]
          rfl
        rw [hfst] at b2
        -- the two lists written
        have t1 := Heap.SameBut.update s'.heap kS (Obj.mapSeq fun _ => (#[] : Array Value))
        obtain ⟨e2, hk2⟩ : ∃ e2, (keysGone s'.heap kS).get? kS = some (seqObj "list" #[] e2) := ⟨_, get?_update_seq hk fun _ => #[]⟩
        have ha2 : (keysGone s'.heap kS).get? aL = some (seqObj "list" #[] e1) := (t1.2 aL (Ne.symm hka)).trans ha
        have fK := (S'.fr (kS, _) List.mem_cons_self).1
        have J1 := I'.write (t' := tk) (o := Just kS (seqObj "list" #[] e2)) (by rw [fK]; trivial) (.inl rfl) (fun b u hb q => (t1.2 b hb).trans q) ⟨_, hk2⟩ (just_ok hk2)
        have S2 := S'.reframe (u := Just kS (seqObj "list" #[] e2)) rfl rfl just_nc
        have fA := (S2.fr (aL, Just aL (seqObj "list" #[] e1)) (List.mem_cons_of_mem _ List.mem_cons_self)).1
        have t2 := Heap.SameBut.update (keysGone s'.heap kS) aL (Obj.mapSeq fun _ => out.toArray)
        obtain ⟨e3, ha3⟩ : ∃ e3, (sortEnd s'.heap kS aL out).get? aL = some (seqObj "list" out.toArray e3) := ⟨_, get?_update_seq ha2 fun _ => out.toArray⟩
        have hln : (((xs.zip vv).zip ks).mergeSort (PySem.W.dataLe false (·.2))).length ≤ sizeLine := by
          have := PySem.W.EachIs.length eo
          omega
        have J2 := J1.write (t' := tk) (h' := sortEnd s'.heap kS aL out) (x := aL) (e := aL) (o := .lst ((((xs.zip vv).zip ks).mergeSort (PySem.W.dataLe false (·.2))).map (·.1.2))) (by rw [fA]; trivial) (.inl rfl) (fun b u hb q => (t2.2 b hb).trans q) ⟨_, ha3⟩
          ⟨by rw [List.length_map]; exact hln, out, e3, b1, ha3⟩
        have hh : Hi' aL = none := (S2.fr (aL, Just aL (seqObj "list" #[] e1)) (List.mem_cons_of_mem _ List.mem_cons_self)).2.1
        have S3 := (S2.unfr.reframe (u := .lst ((((xs.zip vv).zip ks).mergeSort (PySem.W.dataLe false (·.2))).map (·.1.2))) rfl rfl just_nc)
        obtain ⟨S4, E4⟩ := S3.unframe rfl
        refine ⟨.ref aL, _, J2, rfl, hpo _ _ _ _ E4 S4 (.lst (.of upd_same) ((b2.mono E1.h).mono E4.h) ?_)⟩
        have l1 := b2.length
        rw [List.length_map] at l1
        omega
    · exact hpo.elim
theorem pe_srtKJ {y : Str} {k : Nat} {f : Addr} {fd : FuncData} {ps : List Str} {F : List SV → Store → Res SV} (hu : X.A.units + 64 < cLine) (hF : FnOk X.prog X.w X.K X.mg X.base (L2.CX X.prog X.w) k f fd ps (spJ X.K xc ps.length F)) (hr : Room (k + 2) X.A) (hb : Binds X.K fd ps []) (h1 : ps.length = 1)
    (hg : Gl X "sorted") (hm : X.mg "sorted" = none) (hgy : Gl X y) (hmy : X.mg y = some (.ref f)) (hd : (y == ("__debug__" : Str)) = false) (ha : PE X a (RE X xc W fa)) (hn : nst a = true) :
    PE X (.Call (.Name "sorted" p) [a] [⟨some "key", .Name y p2, kpos⟩] pos) (RE X xc W (srtKF F fa)) := by
  refine PEimp (pe_callBK (cr_srtK hu hF hr hb h1) hg hm PyProof.Rows.boot_sorted (pa_consJ ha pa_nilJ hn) (pk_cons (pe_glob hgy hmy (v := .ref f) rfl hd) pk_nil) (by decide) (by decide) (by rw [star_cons hn]; rfl) (by rw [star_cons hn]; rfl) rfl rfl rfl) fun σ H Q ⟨η, st, Hi, μ, φ, he, hs, hp⟩ => ?_
  refine rG_of he hs (Post_one ((Post.bind (R := RpS X.K) hp).mono fun x H1 ⟨w, st2, Hi2, μ2, e2, s2, rw', hp2⟩ => ?_))
  cases w with
  | ref n => exact hp2.elim
  | pv w =>
    simp only [asPV, Res.bind] at hp2
    split at hp2
    · rename_i xs
      cases rw' with
      | @lst l _ ws a1 a2 a3 =>
        refine ⟨rfl, l, xs, ws, st2, Hi2, μ2, φ, rfl, s2, a1, a2, a3, ?_⟩
        have hp2 : Post X.K xc _ (RpS X.K) Hi2 μ2 φ ((keysJ F xs st2).bind fun ks st => finK xs ks st) Q := hp2
        cases q : keysJ F xs st2 with
        | bad => rw [q] at hp2; exact hp2.elim
        | exc ex st => exact absurd q (keys_exc xs)
        | ok ks st3 =>
          rw [q] at hp2
          simp only [Res.bind] at hp2 ⊢
          unfold finK at hp2 ⊢
          split at hp2
          · rename_i hc
            rw [if_pos hc]
            exact hp2
          · exact hp2.elim
    · exact hp2.elim
end
end J
end

section
set_option maxRecDepth 100000
set_option maxHeartbeats 4000000
/-! J7w: a list that may change made of two; a comprehension with two clauses. -/
namespace J
open PySem PySem.Spec PyProof.Rows L2
variable [LamT]
section
variable {X : Cx} {xc : XC} {W : WX} {fa fb : FE} {a b : Expr} {pos : Pos}
theorem pe_mcatJ (ha : PE X a (RE X xc W fa)) (hb : PE X b (RE X xc W fb)) : PE X (.BinOp a .Add b pos) (RE X xc W (mcatF fa fb)) := by
  refine PEimp (pe_op op_catL ha hb) fun σ H Q ⟨η, st, Hi, μ, φ, he, hs, hp⟩ => ?_
  refine rG_of he hs ((Post.bind (R := RpS X.K) hp).mono fun x H1 ⟨v, st1, Hi1, μ1, e1, s1, rv, hp1⟩ => ?_)
  refine rG_of (he.mono e1) s1 ((Post.bind (R := RpS X.K) hp1).mono fun y H2 ⟨w, st2, Hi2, μ2, e2, s2, rw', hp2⟩ => ?_)
  cases v with
  | ref n => exact hp2.elim
  | pv v =>
    cases w with
    | ref n => exact hp2.elim
    | pv w =>
      simp only [asPV, Res.bind] at hp2
      split at hp2
      · split at hp2
        · rename_i hl
          cases (RpS.mono e2 rv : RpS X.K Hi2 μ2 (.pv _) x) with
          | lst a1 a2 a3 => cases rw' with
            | lst b1 b2 b3 =>
              have hl' := Nat.le_trans hl line_le
              have q1 := a2.length
              have q2 := b2.length
              refine ⟨_, _, _, _, rfl, rfl, s2.sub.seq a1, s2.sub.seq b1, by omega, fun p hp => ?_⟩
              obtain ⟨s3, e3, g⟩ := s2.allocM hp (a2.append b2) (by rw [List.length_append]; exact hl')
              exact hp2 _ _ _ _ e3 s3 ⟨p, g, rfl⟩
        · exact hp2.elim
      · exact hp2.elim
end
theorem tgIxs_eq : ∀ tg : Tg, tgIx tg = tgIxs tg
  | .nm _ => rfl
  | .tp _ => rfl
theorem wipe_in {v : Nat} : ∀ (us : List Nat) (τ : L2.St), v ∈ us → (wipe τ us).set v none = wipe τ us := by
  intro us
  induction us with
  | nil => intro τ h; simp at h
  | cons u us ih2 =>
    intro τ h
    show ((wipe τ us).set u none).set v none = (wipe τ us).set u none
    by_cases e : u = v
    · subst e; rw [List.set_set]
    · rw [List.set_comm _ _ e, ih2 τ (by rcases List.mem_cons.mp h with h | h; exact absurd h.symm e; exact h)]
theorem wipe_sub (σ : L2.St) (vs : List Nat) : ∀ ws : List Nat, (∀ v ∈ ws, v ∈ vs) → wipe (wipe σ vs) ws = wipe σ vs := by
  intro ws
  induction ws with
  | nil => intro _; rfl
  | cons v ws ih =>
    intro h
    show (wipe (wipe σ vs) ws).set v none = wipe σ vs
    rw [ih fun u hu => h u (List.mem_cons_of_mem _ hu)]
    exact wipe_in vs σ (h v List.mem_cons_self)
section
variable {X : Cx} {xc : XC} {W : WX}
abbrev FW : WX := fun _ _ _ _ => False
theorem compJ_exc {body : PV → Store → Res (Option PV)} {e : EV} {st' : Store} : ∀ (items acc : List PV) {st : Store}, compJ body items acc st ≠ .exc e st'
  | [], acc, st => fun h => by cases h
  | x :: xs, acc, st => fun h => by
    unfold compJ at h
    split at h
    · exact compJ_exc xs _ h
    · exact compJ_exc xs _ h
    · cases h
theorem true_rT {σ : L2.St} {H Hi : Hp} {η : Envr} {st : Store} {μ : List Addr} {φ : List (Addr × HO)} {Q : Bool → Hp → Prop} (he : EnvR X.K Hi μ η σ) (hs : Sto X.K st H Hi μ φ)
    (h : ∀ H' Hi' μ', Ext Hi μ Hi' μ' → Sto X.K st H' Hi' μ' φ → Q true H') : rT X.K xc FW trueF σ H Q :=
  rT_of he hs fun b' H' Hi' μ' e s eb => by
    have eb : true = b' := eb
    subst eb
    exact h H' Hi' μ' e s
theorem comp2_core {σ : L2.St} {H1 : Hp} {Q : VK} {vs : List Nat} {Tgt Tg1 : Tg} {elt : FE} {it1 : FI} {J : It} {items : List PV} {η : Envr} {st : Store} {Hi : Hp} {μ : List Addr} {φ : List (Addr × HO)} {W' : Value → Option Addr → Hp → Prop}
    (hix : ∀ i ∈ tgIx Tgt, i ∈ vs) (he : EnvR X.K Hi μ η σ) (hs : Sto X.K st H1 Hi μ φ) (hJ : ItOk X.K J items Hi)
    (hp : Post X.K xc W' (RpS X.K) Hi μ φ ((comp2J (comp2C elt Tgt Tg1 it1 vs η) items [] st).bind finJ) Q) (D : Addr) (hD : H1 D = none) :
    ∃ Wi : Nat → Nat → Hp → Prop, (∃ m, Wi 0 m (upd H1 D (.lst []))) ∧ ∀ i m H, Wi i m H →
      (J.stop i H ∧ Q (.ref D) H) ∨ (J.go i H ∧ ∃ Nx : Hp → Prop, (∀ H', Nx H' → ∃ m', m' < m ∧ Wi (i + 1) m' H') ∧ ∀ x H', J.yld i H x H' → tgV X.K Tgt x (wipe σ vs) H' fun σ2 H2 => wipe σ2 vs = wipe σ vs ∧ rT X.K xc FW trueF σ2 H2 fun b H3 =>
        if b = true then rIt X.K xc FW it1 σ2 H3 fun J1 H4 => ∃ W1 : Nat → Nat → Hp → Prop, (∃ m, W1 0 m H4) ∧ ∀ j k H, W1 j k H →
          (J1.stop j H ∧ Nx H) ∨ (J1.go j H ∧ ∃ Nx1 : Hp → Prop, (∀ H', Nx1 H' → ∃ k', k' < k ∧ W1 (j + 1) k' H') ∧ ∀ x H', J1.yld j H x H' → tgV X.K Tg1 x (wipe σ2 (tgIxs Tg1)) H' fun σ3 H5 => wipe σ3 (tgIxs Tg1) = wipe σ2 (tgIxs Tg1) ∧ rT X.K xc FW trueF σ3 H5 fun b H6 =>
            if b = true then rE X.K xc FW elt σ3 H6 fun y H7 => ∃ acc, H7 D = some (.lst acc) ∧ acc.length < sizeLine ∧ Nx1 (upd H7 D (.lst (acc ++ [y]))) else Nx1 H6)
        else Nx H3) := by
  let P : Nat → Hp → Prop := fun i H => ∃ st' Hi' μ' acc accV, Ext Hi μ Hi' μ' ∧ Sto X.K st' H Hi' μ' ((D, .lst accV) :: φ) ∧ Rps X.K Hi' acc accV ∧
    Post X.K xc W' (RpS X.K) Hi' μ' φ ((comp2J (comp2C elt Tgt Tg1 it1 vs η) (items.drop i) acc st').bind finJ) Q
  refine ⟨fun i m H => m = items.length - i ∧ i ≤ items.length ∧ P i H, ⟨_, rfl, Nat.zero_le _, st, Hi, μ, [], [], Ext.refl _ _, hs.frame hD, .nil, by simpa using hp⟩, ?_⟩
  rintro i m H ⟨rfl, hi, st', Hi', μ', acc, accV, e1, s1, ra, hp1⟩
  by_cases hlt : i < items.length
  · refine .inr ⟨hJ.go i H Hi' st' μ' _ e1.h s1 hlt, P (i + 1), fun H' p => ⟨items.length - (i + 1), by omega, rfl, hlt, p⟩, fun x H' y => ?_⟩
    have hc : items[i]? = some items[i] := by simp [hlt]
    obtain ⟨Hi2, e2, s2, r2⟩ := hJ.yld i H Hi' st' μ' _ x H' _ e1.h s1 y hc
    rw [List.drop_eq_getElem_cons hlt] at hp1
    unfold comp2J comp2C at hp1
    cases ha : asgT Tgt (.pv items[i]) (wipeJ η vs) with
    | none => rw [ha] at hp1; exact hp1.elim
    | some η2 =>
      rw [ha] at hp1
      simp only at hp1
      have e02 : Ext Hi μ Hi2 μ' := e1.trans (.of e2)
      refine tgV_of ha (envR_wipe (he.mono e02) vs) s2.sub r2 fun σ2 he2 hw => ⟨by rw [hw vs hix]; exact wipe_sub σ vs vs fun v h => h, true_rT he2 s2 fun H3 Hi3 μ3 e3 s3 => ?_⟩
      rw [if_pos rfl]
      have he3 := he2.mono e3
      have e23 : Ext Hi' μ' Hi3 μ3 := (Ext.of e2).trans e3
      unfold comp2B at hp1
      refine rG_of he3 s3 ?_
      cases hi1 : it1 η2 st' with
      | bad => rw [hi1] at hp1; exact hp1.elim
      | exc ex st4 => rw [hi1] at hp1; exact hp1.elim
      | ok items2 st4 =>
        rw [hi1] at hp1
        simp only [Res.bind] at hp1
        intro J1 H4 Hi4 μ4 e4 s4 hJ1
        by_cases hl2 : acc.length + items2.length ≤ line
        · rw [if_pos hl2] at hp1
          have e24 := e23.trans e4
          have hp2 : Post X.K xc W' (RpS X.K) Hi4 μ4 φ ((compJ (compB elt trueF Tg1 (tgIxs Tg1) η2) items2 acc st4).bind fun a s => (comp2J (comp2C elt Tgt Tg1 it1 vs η) (items.drop (i + 1)) a s).bind finJ) Q := by
            cases q : compJ (compB elt trueF Tg1 (tgIxs Tg1) η2) items2 acc st4 with
            | ok a s => rw [q] at hp1; exact hp1.ext e24
            | exc ex s => exact absurd q (compJ_exc _ _)
            | bad => rw [q] at hp1; exact hp1.elim
          have he4 := he3.mono e4
          let P1 : Nat → Hp → Prop := fun j H => ∃ st' Hi' μ' acc' accV, Ext Hi4 μ4 Hi' μ' ∧ Sto X.K st' H Hi' μ' ((D, .lst accV) :: φ) ∧ Rps X.K Hi' acc' accV ∧ acc'.length ≤ acc.length + j ∧
            Post X.K xc W' (RpS X.K) Hi' μ' φ ((compJ (compB elt trueF Tg1 (tgIxs Tg1) η2) (items2.drop j) acc' st').bind fun a s => (comp2J (comp2C elt Tgt Tg1 it1 vs η) (items.drop (i + 1)) a s).bind finJ) Q
          refine ⟨fun j k H => k = items2.length - j ∧ j ≤ items2.length ∧ P1 j H, ⟨_, rfl, Nat.zero_le _, st4, Hi4, μ4, acc, accV, Ext.refl _ _, s4, ra.mono e24.h, by omega, by simpa using hp2⟩, ?_⟩
          rintro j k H ⟨rfl, hj, st5, Hi5, μ5, acc5, accV5, e5, s5, ra5, hl5, hp5⟩
          by_cases hjt : j < items2.length
          · refine .inr ⟨hJ1.go j H Hi5 st5 μ5 _ e5.h s5 hjt, P1 (j + 1), fun H' p => ⟨items2.length - (j + 1), by omega, rfl, hjt, p⟩, fun x H' y => ?_⟩
            have hc2 : items2[j]? = some items2[j] := by simp [hjt]
            obtain ⟨Hi6, e6, s6, r6⟩ := hJ1.yld j H Hi5 st5 μ5 _ x H' _ e5.h s5 y hc2
            rw [List.drop_eq_getElem_cons hjt] at hp5
            obtain ⟨r, st7, hb, hp7⟩ := compJ_cons hp5
            unfold compB at hb
            cases ha2 : asgT Tg1 (.pv items2[j]) (wipeJ η2 (tgIxs Tg1)) with
            | none => rw [ha2] at hb; cases hb
            | some η3 =>
              rw [ha2] at hb
              have e46 : Ext Hi4 μ4 Hi6 μ5 := e5.trans (.of e6)
              refine tgV_of ha2 (envR_wipe (he4.mono e46) (tgIxs Tg1)) s6.sub r6 fun σ3 he6 hw6 => ⟨by rw [hw6 _ (fun v h => by rw [tgIxs_eq] at h; exact h)]; exact wipe_sub σ2 _ _ fun v h => h, true_rT he6 s6 fun H8 Hi8 μ8 e8 s8 => ?_⟩
              simp only [trueF, Res.bind, if_true] at hb ⊢
              cases hy : elt η3 st5 with
              | bad => rw [hy] at hb; cases hb
              | exc ex s => rw [hy] at hb; cases hb
              | ok yv st9 =>
                rw [hy] at hb
                cases yv with
                | ref n => cases hb
                | pv yv =>
                  simp only [asPV] at hb
                  cases hb
                  refine rG_of (he6.mono e8) s8 ?_
                  rw [hy]
                  intro z H9 Hi9 μ9 e9 s9 rz
                  have e59 : Ext Hi5 μ5 Hi9 μ9 := ((Ext.of e6).trans e8).trans e9
                  refine ⟨accV5, (s9.fr _ List.mem_cons_self).1, ?_, ?_⟩
                  · have := ra5.length
                    have := line_lt
                    omega
                  · refine ⟨_, Hi9, μ9, acc5 ++ [yv], accV5 ++ [z], e5.trans e59, s9.reframe rfl, (ra5.mono e59.h).append (.cons rz .nil), ?_, hp7.ext e59⟩
                    rw [List.length_append, List.length_singleton]
                    omega
          · have hj' : j = items2.length := by omega
            subst hj'
            refine .inl ⟨hJ1.stop _ H Hi5 st5 μ5 _ e5.h s5 rfl, ?_⟩
            rw [List.drop_length] at hp5
            exact ⟨st5, Hi5, μ5, acc5, accV5, (e1.trans e24).trans e5, s5, ra5, hp5⟩
        · rw [if_neg hl2] at hp1; exact hp1.elim
  · have hi' : i = items.length := by omega
    subst hi'
    refine .inl ⟨hJ.stop _ H Hi' st' μ' _ e1.h s1 rfl, ?_⟩
    rw [List.drop_length] at hp1
    unfold comp2J at hp1
    simp only [Res.bind, finJ] at hp1
    split at hp1
    · rename_i hl
      obtain ⟨s2, e2⟩ := s1.unframe rfl
      exact hp1 _ _ _ _ e2 s2 (.lst (.of upd_same) (ra.mono e2.h) (Nat.le_trans hl line_le))
    · exact hp1.elim
theorem tLc2_of {Tgt Tg1 : Tg} {elt : FE} {it it1 : FI} {vs : List Nat} {σ : L2.St} {H : Hp} {Q : VK} (hix : ∀ i ∈ tgIx Tgt, i ∈ vs) (h : RE X xc W (comp2F elt Tgt it Tg1 it1 vs) σ H Q) :
    tLc2 (RI X xc W it) (tgV X.K Tgt) (rT X.K xc FW trueF) (rIt X.K xc FW it1) (tgV X.K Tg1) (rT X.K xc FW trueF) (rE X.K xc FW elt) vs (tgIxs Tg1) σ H Q := by
  obtain ⟨η, st, Hi, μ, φ, he, hs, hp⟩ := h
  refine rG_of he hs ((Post.bind (R := fun Hi _ items J => ItOk X.K J items Hi) hp).mono fun J H1 ⟨items, st1, Hi1, μ1, e1, s1, hJ, hp1⟩ => ?_)
  exact fun D hD => comp2_core (X := X) hix (he.mono e1) s1 hJ hp1 D hD
end
end J
end

section
set_option maxRecDepth 100000
set_option maxHeartbeats 4000000
/-! J7x: sorted(xs, key=len), the items tuples. -/
namespace J
open PySem PySem.Spec PyProof.Rows L2
variable [LamT]
def RZL (K : PySem.W.Frag) (Hi : Hp) (v : Value) (p : PV × V) : Prop := RelV p.2 v ∧ Rp K Hi p.1 p.2
theorem each_zipL {K : PySem.W.Frag} {Hi : Hp} : ∀ {xs : List PV} {vs : List V} {its : List Value}, Rps K Hi xs vs → Vals vs its → PySem.W.EachIs (RZL K Hi) its (xs.zip vs)
  | _, _, _, .nil, .nil => .nil
  | _, _, _, .cons r t, .cons q u => .cons ⟨q, r⟩ (each_zipL t u)
theorem each_backL {K : PySem.W.Frag} {Hi : Hp} : ∀ {ps : List (PV × V)} {out : List Value}, PySem.W.EachIs (RZL K Hi) out ps → Vals (ps.map (·.2)) out ∧ Rps K Hi (ps.map (·.1)) (ps.map (·.2))
  | _, _, .nil => ⟨.nil, .nil⟩
  | _, _, .cons h t => ⟨.cons h.1 (each_backL t).1, .cons h.2 (each_backL t).2⟩
theorem zipL_keys : ∀ {xs : List PV} {vs : List V}, xs.length = vs.length → (xs.zip vs).map (fun p => (p.1, lenP p.1)) = xs.zip (xs.map lenP)
  | [], _, _ => rfl
  | x :: xs, [], h => by simp at h
  | x :: xs, v :: vs, h => by
    rw [List.zip_cons_cons, List.map_cons, List.map_cons, List.zip_cons_cons, zipL_keys (by simpa using h)]
theorem byKeys_zip {xs : List PV} {vs : List V} (h : xs.length = vs.length) : ((xs.zip vs).mergeSort (PySem.W.dataLe false fun p : PV × V => lenP p.1)).map (·.1) = byKeys xs (xs.map lenP) := by
  unfold byKeys
  have m := List.map_mergeSort (r := PySem.W.dataLe false (fun p : PV × V => lenP p.1)) (s := fun (p q : PV × PV) => PySem.W.dataLe false id p.2 q.2) (f := fun p : PV × V => (p.1, lenP p.1)) (l := xs.zip vs) (fun a _ b _ => rfl)
  rw [zipL_keys h] at m
  rw [← m, List.map_map]
  rfl
section
variable {X : Cx} {xc : XC} {W : WX} {fa : FE} {a : Expr} {p p2 pos kpos : Pos}
theorem pe_srtLJ (hu : X.A.units + 64 < cLine) (hg : Gl X "sorted") (hm : X.mg "sorted" = none) (hgy : Gl X "len") (hmy : X.mg "len" = none) (ha : PE X a (RE X xc W fa)) (hn : nst a = true) :
    PE X (.Call (.Name "sorted" p) [a] [⟨some "key", .Name "len" p2, kpos⟩] pos) (RE X xc W (srtLF fa)) := by
  refine ⟨fun pins s σ H Q I h => ?_⟩
  obtain ⟨η, st, Hi, μ, φ, he, hs, hp⟩ := h
  refine wpAny_Call_Name_kw (ld_blt I hg hm PyProof.Rows.boot_sorted ?_ (by decide) (by decide))
  have ev1 : rG X.K xc W (RpSs X.K) (consF fa nilF) σ H (fun vs H1 => ∃ l xs ws st2 Hi2 μ2, vs = [.ref l] ∧ Sto X.K st2 H1 Hi2 μ2 φ ∧ SqL X.K Hi2 l ws ∧ Rps X.K Hi2 xs ws ∧ xs.length ≤ sizeLine ∧ xs.all isTupP = true ∧
      Post X.K xc (fun c d H => W c d σ H) (RpS X.K) Hi2 μ2 φ (.ok (.pv (.list (byKeys xs (xs.map lenP)))) st2) Q) := by
    refine rG_of he hs (Post_one ((Post.bind (R := RpS X.K) hp).mono fun x H1 ⟨w, st2, Hi2, μ2, e2, s2, rw', hp2⟩ => ?_))
    cases w with
    | ref n => exact hp2.elim
    | pv w =>
      simp only [asPV, Res.bind] at hp2
      unfold srtLV at hp2
      split at hp2
      · rename_i xs
        split at hp2
        · rename_i hc
          cases rw' with
          | @lst l _ ws a1 a2 a3 => exact ⟨l, xs, ws, st2, Hi2, μ2, rfl, s2, a1, a2, a3, hc.2, hp2⟩
        · exact hp2.elim
      · exact hp2.elim
  refine PyProof.Rows.callWith_kw (thn ((pa_consJ ha pa_nilJ hn).run pos pins s σ H _ I ev1) fun us s1 ⟨vs, H1, I1, r1, l, xs, vv, st2, Hi2, μ2, ev, s2, hl, hx, hz, hall, hp2⟩ => ?_) (by rw [star_cons hn]; rfl) (by rw [star_cons hn]; rfl) rfl rfl
  subst ev
  obtain rfl := Vals.ref1 r1
  show wpAny _ _ (evalAll ((do let v ← eval (.Name "len" p2) X.env; standAt pos; pure v) :: [])) _ _ s1
  refine wpAny_evalAll_cons (wpAny_bind (ld_blt I1 hgy hmy boot_len (wpAny_bind (wpAny_standAt (wpAny_pure ?_))) (by decide) (by decide)))
  refine wpAny_evalAll_nil ?_
  show wpAny _ _ (call (.builtin "sorted") [.ref l] [(Str.ofString "key", .builtin "len")]) _ _ _
  obtain ⟨its, rI, pl, _⟩ := I1.list (s2.sub.seq hl)
  have hvl : its.length = xs.length := by rw [← rI.length, ← hx.length]
  have hxv : xs.length = vv.length := hx.length
  have hzl : (xs.zip vv).length = xs.length := by rw [List.length_zip, ← hxv, Nat.min_self]
  refine PySem.W.sorted_key_data (β := PV × V) (R := RZL X.K Hi2) (bs := xs.zip vv) (fun p => lenP p.1) pl.isList (each_zipL hx rI) ?al ?so (by rw [hzl]; exact hz) ?de (ksk_s1 _ _) (fun _ => ksk_l1 _ _) (fun q => ksk_t4 "len" q) ?turn ?done
  case al =>
    intro d hd d' hd'
    obtain ⟨p1, m1, rfl⟩ := List.mem_map.mp hd
    obtain ⟨p2, m2, rfl⟩ := List.mem_map.mp hd'
    have h1 := List.all_eq_true.mp hall p1.1 (List.of_mem_zip m1).1
    have h2 := List.all_eq_true.mp hall p2.1 (List.of_mem_zip m2).1
    cases e1 : p1.1 with
    | tuple y1 =>
      cases e2 : p2.1 with
      | tuple y2 => rfl
      | _ => rw [e2] at h2; cases h2
    | _ => rw [e1] at h1; cases h1
  case so =>
    right
    intro d hd
    obtain ⟨p1, m1, rfl⟩ := List.mem_map.mp hd
    have h1 := List.all_eq_true.mp hall p1.1 (List.of_mem_zip m1).1
    cases e1 : p1.1 with
    | tuple y1 =>
      refine ⟨?_, ?_⟩
      · simp [lenP]
      · intro ys e; simp [lenP] at e
    | _ => rw [e1] at h1; cases h1
  case de =>
    intro x hx
    have : (lenP x.1).depth = 0 := by cases x.1 <;> rfl
    rw [this]
    omega
  case turn =>
    intro v x hR hm h tk kp
    obtain ⟨rv, rp⟩ := hR
    have h1 := List.all_eq_true.mp hall x.1 (List.of_mem_zip hm).1
    obtain ⟨x1, x2⟩ := x
    simp only at rv rp h1
    cases rp with
    | @tup a ys ws b1 b2 b3 =>
      obtain rfl : v = Value.ref a := rv
      obtain ⟨its2, r2, ⟨o, g1, g2, g3⟩, _⟩ := I1.tuple (sqT_mono s2.sub b1)
      have hl2 : its2.length = ys.length := by rw [← r2.length, ← b2.length]
      refine len_tuple (s := { s1 with heap := h, toks := tk }) (items := its2.toArray) ⟨o, kp _ _ g1, g2, g3⟩ ?_ ?_
      · rw [List.size_toArray, hl2]
        have := b3
        rw [sizeLine_eq] at this
        omega
      · refine ⟨h, tk + 1 + 1, rfl, fun b o e => e, ?_⟩
        simp only [lenP, List.size_toArray, hl2]
        constructor
    | _ => cases h1
  case done =>
    intro out c h' tk kp fresh ho hlen eo
    obtain ⟨b1, b2⟩ := each_backL eo
    rw [byKeys_zip hxv] at b2
    have hn : H1 (s1.heap.objs.size + 1) = none := I1.hok.fresh (Nat.le_succ _)
    have hln : (((xs.zip vv).mergeSort (PySem.W.dataLe false fun p : PV × V => lenP p.1)).map (·.2)).length ≤ sizeLine := by
      rw [List.length_map, List.length_mergeSort, hzl]
      exact hz
    have J := I1.laid (t' := tk) (a := s1.heap.objs.size + 1) (o := .lst (((xs.zip vv).mergeSort (PySem.W.dataLe false fun p : PV × V => lenP p.1)).map (·.2))) (h' := h') kp (Nat.le_succ _) ⟨hln, out, c, b1, ho⟩
    obtain ⟨S2, E2⟩ := s2.alloc (p := s1.heap.objs.size + 1) (o := .lst (((xs.zip vv).mergeSort (PySem.W.dataLe false fun p : PV × V => lenP p.1)).map (·.2))) hn
    refine ⟨.ref (s1.heap.objs.size + 1), _, J, rfl, hp2 _ _ _ _ E2 S2 (.lst (.of upd_same) (b2.mono E2.h) ?_)⟩
    have l1 := b2.length
    rw [l1]
    exact hln
end
end J
end

section
set_option maxRecDepth 100000
/-! J7y: a look at a list that may change: the answer holds nothing of it. -/
namespace J
open PySem PySem.Spec PyProof.Rows L2
variable [LamT]
theorem unref_get {η : Envr} {j : Nat} {s : SV} (h : (unrefJ η)[j]? = some (some s)) : ∃ v, s = .pv v ∧ η[j]? = some (some (.pv v)) := by
  unfold unrefJ at h
  rw [List.getElem?_map] at h
  cases q : η[j]? with
  | none => rw [q] at h; cases h
  | some o =>
    rw [q] at h
    cases o with
    | none => cases h
    | some x =>
      cases x with
      | pv v => cases h; exact ⟨v, rfl, rfl⟩
      | ref n => cases h
theorem flat_rp {K : PySem.W.Frag} {H H' : Hp} {v : PV} {x : V} (h : flatP v = true) (r : Rp K H v x) : Rp K H' v x := by
  cases r with
  | non => exact .non
  | bl b => exact .bl b
  | int i => exact .int i
  | _ => cases h
section
variable {K : PySem.W.Frag} {st : Store} {H Hi : Hp} {μ : List Addr} {φ : List (Addr × HO)}
noncomputable def framesOf (H Hi : Hp) (a : Addr) (μ : List Addr) : List (Addr × HO) :=
  open Classical in μ.filterMap fun p => if p = a ∨ Hi p ≠ none then none else (H p).map fun o => (p, o)
theorem framesOf_mem {a : Addr} {q : Addr × HO} (h : q ∈ framesOf H Hi a μ) : q.1 ∈ μ ∧ q.1 ≠ a ∧ Hi q.1 = none ∧ H q.1 = some q.2 := by
  unfold framesOf at h
  obtain ⟨p, hp, e⟩ := List.mem_filterMap.mp h
  split at e
  · cases e
  · rename_i c
    cases hh : H p with
    | none => rw [hh] at e; cases e
    | some o =>
      rw [hh] at e
      cases e
      exact ⟨hp, fun z => c (.inl z), Classical.not_not.mp fun z => c (.inr z), hh⟩
theorem framesOf_has {a p : Addr} {o : HO} (hp : p ∈ μ) (na : p ≠ a) (hi : Hi p = none) (hh : H p = some o) : (p, o) ∈ framesOf H Hi a μ := by
  unfold framesOf
  refine List.mem_filterMap.mpr ⟨p, hp, ?_⟩
  rw [if_neg (by
    rintro (z | z)
    · exact na z
    · exact z hi), hh]
  rfl
theorem framesOf_nodup {a : Addr} (nd : μ.Nodup) : ((framesOf H Hi a μ).map Prod.fst).Nodup := by
  have key : ∀ l : List Addr, ((framesOf H Hi a l).map Prod.fst).Sublist l := by
    intro l
    induction l with
    | nil => exact List.Sublist.slnil
    | cons p l ih =>
      unfold framesOf at ih ⊢
      rw [List.filterMap_cons]
      split
      · exact ih.cons p
      · rename_i q e
        split at e
        · cases e
        · cases hh : H p with
          | none => rw [hh] at e; cases e
          | some o =>
            rw [hh] at e
            cases e
            exact ih.cons₂ p
  exact (key μ).nodup nd
end
section
variable {X : Cx} {xc : XC} {W : WX} {fe : FE} {e : Expr}
theorem pe_lookJ (i : Nat) (h : PE X e (RE X xc W fe)) : PE X e (RE X xc W (lookF i fe)) := by
  refine PEimp h fun σ H Q ⟨η, st, Hi, μ, φ, he, hs, hp⟩ => ?_
  unfold lookF at hp
  split at hp
  · rename_i n hη
    split at hp
    · rename_i xs hst
      obtain ⟨xv, hσ, a, hμ, rfl⟩ := he.2 i _ hη
      obtain ⟨q1, vs, q2, q3, q4⟩ := hs.cell n a _ hμ hst
      have sm : Same Hi (upd Hi a (.lst vs)) := fun b u e => by rw [upd_ne (ne_of_none e q1)]; exact e
      have hil : i < η.length := (List.getElem?_eq_some_iff.mp hη).1
      have ha : a ∈ μ := List.mem_of_getElem? hμ
      have S1 : Sto X.K [] H (upd Hi a (.lst vs)) [] (framesOf H Hi a μ ++ φ) := by
        refine ⟨fun b u e => ?_, rfl, List.nodup_nil, fun m b c g1 g2 => by simp at g1, fun p hp => ?_, ?_, fun b hb => by simp at hb, hs.tb, fun b ps => ?_, fun p hp => ?_⟩
        · by_cases hb : b = a
          · subst hb; rw [upd_same] at e; cases e; exact q2
          · rw [upd_ne hb] at e; exact hs.sub _ _ e
        · rcases List.mem_append.mp hp with hp | hp
          · obtain ⟨f1, f2, f3, f4⟩ := framesOf_mem hp
            exact ⟨f4, by rw [upd_ne f2]; exact f3, by simp⟩
          · obtain ⟨f1, f2, f3⟩ := hs.fr p hp
            exact ⟨f1, by rw [upd_ne (fun z => f3 (by rw [z]; exact ha))]; exact f2, by simp⟩
        · rw [List.map_append, List.nodup_append]
          refine ⟨framesOf_nodup hs.nd, hs.fnd, fun u hu v hv z => ?_⟩
          obtain ⟨p, hp, rfl⟩ := List.mem_map.mp hu
          obtain ⟨r, hr, rfl⟩ := List.mem_map.mp hv
          exact (hs.fr r hr).2.2 (by rw [← z]; exact (framesOf_mem hp).1)
        · by_cases hb : b = a
          · subst hb; rw [upd_same]; exact fun e => by cases e
          · rw [upd_ne hb]; exact hs.nt b ps
        · rcases List.mem_append.mp hp with hp | hp
          · obtain ⟨f1, f2, f3, f4⟩ := framesOf_mem hp
            obtain ⟨o, g1, g2⟩ := hs.there p.1 f1
            rw [f4] at g1
            rw [Option.some.inj g1]
            exact g2
          · exact hs.frn p hp
      have E1 : EnvR X.K (upd Hi a (.lst vs)) [] ((unrefJ η).set i (some (.pv (.list xs)))) σ := by
        refine ⟨by rw [List.length_set]; unfold unrefJ; rw [List.length_map]; exact he.1, fun j s hj => ?_⟩
        by_cases hji : i = j
        · subst hji
          rw [List.getElem?_set_self (by unfold unrefJ; rw [List.length_map]; exact hil)] at hj
          cases hj
          exact ⟨_, hσ, .lst (.of upd_same) (q3.mono sm) q4⟩
        · rw [List.getElem?_set_ne hji] at hj
          obtain ⟨v, rfl, hj2⟩ := unref_get hj
          obtain ⟨x, h1, h2⟩ := he.2 j _ hj2
          exact ⟨x, h1, Rp.mono sm h2⟩
      refine ⟨_, [], upd Hi a (.lst vs), [], framesOf H Hi a μ ++ φ, E1, S1, ?_⟩
      split at hp
      · rename_i v st1 hr
        rw [hr]
        split at hp
        · rename_i hf
          intro x H' Hi' μ' ex S' rx
          have hi' : Same Hi Hi' := sm.trans ex.h
          have kept : ∀ b ∈ μ, Hi b = none → ∀ o, H b = some o → H' b = some o := fun b hb hn o ho => by
            by_cases hba : b = a
            · subst hba
              rw [q2] at ho
              cases ho
              exact S'.sub _ _ (ex.h _ _ upd_same)
            · exact (S'.fr _ (List.mem_append_left _ (framesOf_has hb hba hn ho))).1
          have S2 : Sto X.K st H' Hi μ φ := by
            refine ⟨hi'.trans S'.sub, hs.len, hs.nd, fun m b c g1 g2 => ?_, fun p hp => ?_, hs.fnd, fun b hb => ?_, S'.tb, hs.nt, hs.frn⟩
            · have q := hs.cell m b c g1 g2
              cases c with
              | lst ys =>
                obtain ⟨r1, ws, r2, r3, r4⟩ := q
                exact ⟨r1, ws, kept b (List.mem_of_getElem? g1) r1 _ r2, r3, r4⟩
              | frz v => exact q
            · obtain ⟨f1, f2, f3⟩ := hs.fr p hp
              exact ⟨(S'.fr p (List.mem_append_right _ hp)).1, f2, f3⟩
            · obtain ⟨o, g1, g2⟩ := hs.there b hb
              refine ⟨o, ?_, g2⟩
              cases hh : Hi b with
              | some u =>
                have z := hs.sub _ _ hh
                rw [g1] at z
                cases z
                exact S'.sub _ _ (hi' _ _ hh)
              | none => exact kept b hb hh o g1
          exact hp x H' Hi μ (Ext.refl _ _) S2 (flat_rp (K := X.K) (x := x) hf rx)
        · exact hp.elim
      · exact hp.elim
    · exact hp.elim
  · exact hp.elim
end
end J
end

section
set_option maxRecDepth 100000
set_option maxHeartbeats 2000000
/-! J7q: except clauses, some of them with a name. -/
namespace J
open PySem PySem.Spec PyProof.Rows L2
/-- a state in which an exception stands caught -/
structure Cgt (X : Cx) (pins : List (Addr × Obj)) (σ : L2.St) (H : Hp) (sI s' : Shared) (B h3 : Heap) (a : Addr) (cls : Value) (d : Option Addr) : Prop where
  J : Inv X pins σ H sI
  nb : ∀ b o, sI.heap.get? b = some o → b ∉ frs X.stack → B.get? b = some o
  up : sI.heap.UpToSlots h3
  fl : HandSPX.FlyingZ B (X.env :: X.outer) a (Zc cls d) h3
  os : s'.os = sI.os
  ag : AllBare s'.gens
  na : H a = none
  hs : X.stack = X.env :: X.outer
  hf : X.env.frame = some X.env.locals
abbrev ClA := Value × Option Nat × (Addr → Value → Option Addr → TS)
/-- the ends of a suite whose name is given up -/
def unD (i : Nat) (D : Ends) : Ends := { nx := fun σ H => D.nx (σ.set i none) H, rt := D.rt, bk := fun σ H => D.bk (σ.set i none) H, ct := fun σ H => D.ct (σ.set i none) H }
/-- what a clause wishes when it takes the exception at a -/
def takeA (D : Ends) (a : Addr) (cls : Value) (d : Option Addr) (σ : L2.St) (H : Hp) : Option Nat → (Addr → Value → Option Addr → TS) → Prop
  | none, ts => ts a cls d D σ H
  | some i, ts => (σ.set i (some (.ref a)))[i]? = some (some (V.ref a)) → ts a cls d (unD i D) (σ.set i (some (.ref a))) H
def wAll (K : PySem.W.Frag) (Wout : WX) (D : Ends) : List ClA → WX
  | [] => Wout
  | (c, n, ts) :: r => fun cls d σ H => ∃ b, PySem.W.exmOne K cls c = some b ∧ (b = true → ∀ a, H a = none → takeA D a cls d σ H n ts) ∧ (b = false → wAll K Wout D r cls d σ H)
/-- how a clause names the exception -/
inductive NamA (X : Cx) : Option Str → Option Nat → Prop
  | non : NamA X none none
  | som {n : Str} {i : Nat} (hN : X.N.Nodup) (hi : X.N[i]? = some n) (hl : X.env.kindOf n = some .local) : NamA X (some n) (some i)
inductive HdsA (X : Cx) : List ExceptHandler → List ClA → Prop
  | nil : HdsA X [] []
  | cons {x : Str} {c : Value} {nm : Option Str} {n : Option Nat} {ts : Addr → Value → Option Addr → TS} {b₀ : Stmt} {suite : List Stmt} {np pos' : Pos} {hds : List ExceptHandler} {l : List ClA} (hc : Names X x c) (hn : NamA X nm n)
      (hsu : ∀ (a : Addr) (oe : Obj) (cls : Value) (d : Option Addr) (pn : List (Addr × Obj)), Zc cls d oe → (∃ vs, oe.data = .fields vs) → PSs (X.suite a ((a, oe) :: pn)) (b₀ :: suite) (ts a cls d)) (r : HdsA X hds l) :
      HdsA X (.ExceptHandler (some (.Name x np)) nm (b₀ :: suite) pos' :: hds) ((c, n, ts) :: l)
section
variable {X : Cx} {pins : List (Addr × Obj)} {σ : L2.St} {H : Hp} {sI s' : Shared} {B h3 : Heap} {a : Addr} {cls : Value} {d : Option Addr}
theorem Cgt.inv (c : Cgt X pins σ H sI s' B h3 a cls d) : Inv X pins σ H { s' with heap := h3 } := c.J.landed c.nb c.fl.1 c.up c.os c.ag
theorem Cgt.on (c : Cgt X pins σ H sI s' B h3 a cls d) {h4 : Heap} (fl : HandSPX.FlyingZ B (X.env :: X.outer) a (Zc cls d) h4) (up : h3.UpToSlots h4) : Cgt X pins σ H sI s' B h4 a cls d :=
  ⟨c.J, c.nb, c.up.trans up, fl, c.os, c.ag, c.na, c.hs, c.hf⟩
/-- .. seen from the suite -/
theorem Cgt.suite (c : Cgt X pins σ H sI s' B h3 a cls d) : ∃ oe, Zc cls d oe ∧ (∃ vs, oe.data = .fields vs) ∧ h3.get? a = some oe ∧ Inv (X.suite a ((a, oe) :: (X.pn ++ pins))) [] σ H { s' with heap := h3 } := by
  obtain ⟨oe, vs, he, hz, hd⟩ := c.fl.there
  have nfr : a ∉ frs (X.env :: X.outer) := fun hm => by
    obtain ⟨_, o', e', hnf⟩ := c.fl.2.2.1.mem hm
    rw [he] at e'
    cases e'
    exact hnf _ hd
  have fr := c.hf
  refine ⟨oe, hz, ⟨vs, hd⟩, he, c.inv.suite he hd c.na (fun z => nfr (List.mem_filterMap.mpr ⟨X.env, List.mem_cons_self, by rw [fr, z]⟩)) fun hm => ?_⟩
  obtain ⟨e, h1, h2⟩ := List.mem_filterMap.mp hm
  exact nfr (List.mem_filterMap.mpr ⟨e, List.mem_cons_of_mem _ h1, h2⟩)
/-- no clause is left: it goes on -/
theorem Cgt.pass (c : Cgt X pins σ H sI s' B h3 a cls d) {Wout : WX} {Q : Flow → Shared → Prop} (tk : Takes X Wout) (w : Wout cls d σ H) : wpAny (model X.prog X.w) X.A (handleBy (.ref a) X.env []) Q X.xe { s' with heap := h3 } := by
  refine wpAny_handleBy_nil ?_
  have fl := c.fl
  obtain ⟨_, _, _, oe, vs, T, oT, ts', he, hz, hd, h1, _⟩ := id fl
  unfold PySem.passOn
  refine wpAny_bind (wpAny_field he hd h1 ?_)
  rw [if_neg (show ¬ ((Value.ref T == Value.none) = true) from by simp)]
  have fin : wpAny (model X.prog X.w) X.A (setFlight (.ref a) X.env.frame) (fun _ s4 => wpAny (model X.prog X.w) X.A (throw (.ref a) : Sem Flow) Q X.xe s4) X.xe { s' with heap := h3 } := by
    rw [c.hf]
    refine HandSPX.setFlight_upZ fl fun h4 hh4 up4 => wpAny_throw (tk _ _ ?_)
    exact ⟨a, B, sI, pins, σ, H, cls, d, rfl, c.J, c.nb, c.up.trans up4, .inr (.inr (by rw [c.hs]; exact hh4)), c.na, c.os, c.ag, w⟩
  first
    | exact wpAny_bind (wpAny_pure (wpAny_bind fin))
    | exact wpAny_bind fin
/-- a suite's end is the statement's end -/
theorem sp_unsuite {D : Ends} {f : Flow} {s6 : Shared} {q : Addr × Obj} (ok : X.Ok) (h : SP (X.suite a (q :: (X.pn ++ pins))) [] D f s6) : SP X pins D f s6 := by
  cases f with
  | next => obtain ⟨σ6, H6, S6, q6⟩ := h; exact ⟨_, _, S6.unsuite ok, q6⟩
  | brk => obtain ⟨σ6, H6, S6, q6⟩ := h; exact ⟨_, _, S6.unsuite ok, q6⟩
  | cont => obtain ⟨σ6, H6, S6, q6⟩ := h; exact ⟨_, _, S6.unsuite ok, q6⟩
  | ret u => obtain ⟨v6, σ6, H6, S6, r6, q6⟩ := h; exact ⟨_, _, _, S6.unsuite ok, r6, q6⟩
/-- the clauses, one behind the other -/
theorem Cgt.clauses {Wout : WX} {D : Ends} (tk : Takes X Wout) : ∀ {hds : List ExceptHandler} {l : List ClA} {h3 : Heap}, Cgt X pins σ H sI s' B h3 a cls d → HdsA X hds l → wAll X.K Wout D l cls d σ H →
    wpAny (model X.prog X.w) X.A (handleBy (.ref a) X.env hds) (SP X pins D) X.xe { s' with heap := h3 }
  | _, _, _, c, .nil, w => c.pass tk w
  | _, _, h3, c, .cons (x := x) (c := cv) (np := np) (hds := hds2) (suite := suite) hc hn hsu r, w => by
    obtain ⟨b, hb, hyes, hno⟩ := w
    refine wpAny_handleBy_cons (codeAny_handlers_test ?_) (by intro q; cases q)
    obtain ⟨oe, hz, hv, he, S⟩ := c.suite
    have LT : PySem.W.Looks (model X.prog X.w) h3 (typeOf (.ref a)) cls := fun A Q E s k q => wpAny_typeOf_ref (k _ _ he) (by rw [hz.1]; exact q)
    have LM := PySem.W.exm_one (M := model X.prog X.w) c.inv.kIn LT hb
    have test : ∀ {Q : Value → Shared → Prop} {E : Value → Shared → Prop}, Q cv { s' with heap := h3 } → wpAny (model X.prog X.w) (X.A.mark (some (.ref a))) (eval (.Name x np) X.env) Q E { s' with heap := h3 } := fun {Q E} q => by
      obtain ⟨hg, hdbg, hm | ⟨hm, hv, hnn⟩⟩ := hc
      · exact ld_glob (X := X.suite a ((a, oe) :: (X.pn ++ pins))) S hg hm q hdbg
      · exact ld_blt (X := X.suite a ((a, oe) :: (X.pn ++ pins))) S hg hm hv q hnn hdbg
    refine test (LM.here ?_)
    have ok := c.J.ok
    cases b with
    | false =>
      show wpAny _ X.A (handleBy (.ref a) X.env hds2) _ _ _
      exact Cgt.clauses tk c r (hno rfl)
    | true =>
      cases hn with
      | non =>
        refine codeAny_handlers_suite (HandSPX.lands_againZ c.fl fun h4 fl4 up4 => ?_)
        obtain ⟨oe4, hz4, hv4, he4, S4⟩ := (c.on fl4 up4).suite
        exact wpAny_mono ((hsu a oe4 cls d (X.pn ++ pins) hz4 hv4).run [] _ _ H _ S4 (hyes rfl a c.na)) (fun f s6 hsp => sp_unsuite ok hsp) (fun _ _ z => False.elim z)
      | som hN hi hl =>
        refine codeAny_handlers_suite_as (HandSPX.lands_againZ c.fl fun h4 fl4 up4 => ?_)
        obtain ⟨oe4, hz4, hv4, he4, S4⟩ := (c.on fl4 up4).suite
        refine store_ok (X := X.suite a ((a, oe4) :: (X.pn ++ pins))) (v := .ref a) S4 hN hi (.inl hl) rfl (fun s5 S5 => ?_) (.inr hl)
        refine wpAny_mono ((hsu a oe4 cls d (X.pn ++ pins) hz4 hv4).run [] s5 _ H _ S5 (hyes rfl a c.na (List.getElem?_set_self (by rw [c.J.len]; exact (List.getElem?_eq_some_iff.mp hi).1)))) (fun f s6 hsp => ?_) (fun _ _ z => False.elim z)
        have z := sp_unsuite ok hsp
        cases f with
        | next => obtain ⟨σ6, H6, S6, q6⟩ := z; exact gone_ok S6 hN hi hl fun s7 J7 => ⟨_, _, J7, q6⟩
        | brk => obtain ⟨σ6, H6, S6, q6⟩ := z; exact gone_ok S6 hN hi hl fun s7 J7 => ⟨_, _, J7, q6⟩
        | cont => obtain ⟨σ6, H6, S6, q6⟩ := z; exact gone_ok S6 hN hi hl fun s7 J7 => ⟨_, _, J7, q6⟩
        | ret u => obtain ⟨v6, σ6, H6, S6, r6, q6⟩ := z; exact gone_ok S6 hN hi hl fun s7 J7 => ⟨_, _, _, J7, r6, q6⟩
end
theorem ps_tryA {X : Cx} {body : List Stmt} {h₀ : ExceptHandler} {hds : List ExceptHandler} {l : List ClA} {pos : Pos} {tb : WX → TS} {Wout : WX} (hs : X.stack = X.env :: X.outer) (hf : X.env.frame = some X.env.locals) (tk : Takes X Wout)
    (hb : ∀ (W : WX) (pn : List (Addr × Obj)) (xe : Value → Shared → Prop), Takes (X.tr pn xe) W → PassesOwn (model X.prog X.w) X.A X.env xe → PSs (X.tr pn xe) body (tb W))
    (hh : HdsA X (h₀ :: hds) l) : PS X (.Try body (h₀ :: hds) [] [] pos) (fun D σ H => tb (wAll X.K Wout D l) D σ H) := by
  refine ⟨fun pins s σ H D I h => ?_⟩
  have ok := I.ok
  have hfr : X.A.frames = some (X.env :: X.outer) := by rw [ok.frames, hs]
  refine wpAny_Try_except (wpAny_mono ((hb (wAll X.K Wout D l) (X.pn ++ pins) (fun e s₁ => wpAny (model X.prog X.w) X.A (noteFrame e X.env) (fun _ s₂ => wpAny (model X.prog X.w) X.A (setFlight e none) (fun _ s₃ =>
    wpAny (model X.prog X.w) X.A (handleBy e X.env (h₀ :: hds)) (SP X pins D) X.xe s₃) X.xe s₂) X.xe s₁) (fun u s' xx => ?_) PassesOwn.looking).run [] s σ H D (I.toTry _) h) (fun f s1 hsp => ?_) (fun e s1 he => he))
  · obtain ⟨a, B, sI, pins', σ', H', cls, d, rfl, J', nb, up, sky, na, os, ag, w⟩ := xx
    have sky' : Sky B (X.env :: X.outer) a (Zc cls d) X.env.locals s'.heap := by rw [← hs]; exact sky
    show wpAny (model X.prog X.w) X.A (noteFrame (.ref a) X.env) _ _ _
    refine Sky.land Zc.steady hfr hf sky' fun h3 fl3 up3 => ?_
    exact Cgt.clauses tk ⟨J'.ofTry ok, nb, up.trans up3, fl3, os, ag, na, hs, hf⟩ hh w
  · cases f with
    | next => obtain ⟨σ', H', J', q⟩ := hsp; exact wpAny_execs_nil ⟨σ', H', J'.ofTry ok, q⟩
    | brk => obtain ⟨σ', H', J', q⟩ := hsp; exact ⟨σ', H', J'.ofTry ok, q⟩
    | cont => obtain ⟨σ', H', J', q⟩ := hsp; exact ⟨σ', H', J'.ofTry ok, q⟩
    | ret u => obtain ⟨v, σ', H', J', r, q⟩ := hsp; exact ⟨v, σ', H', J'.ofTry ok, r, q⟩
end J
end

section
set_option maxRecDepth 100000
set_option maxHeartbeats 2000000
/-! J7z: a call as a lambda, handed to a def that tells its word. -/
namespace J
open PySem PySem.Spec PyProof.Rows L2
variable [LamT]
/-- what a clause gives back -/
def hbQ (K : PySem.W.Frag) (b : HB) (Q : VK) (cls : Value) (d : Option Addr) (H : Hp) : Prop := match b with
  | .word w => Q (.str w) H
  | .fld f => ∃ (C dd : Addr) (fs : List (Str × V)) (v : V), cls = .ref C ∧ XfC K C ∧ PySem.W.findIn K (.ref C) f = some none ∧ d = some dd ∧ H dd = some (.xd fs) ∧ fs.lookup f = some v ∧ Q v H
/-- what the clauses say of an exception -/
def hAll (K : PySem.W.Frag) : List (Value × HB) → VK → Value → Option Addr → Hp → Prop
  | [], _, _, _, _ => False
  | (c, w) :: r, Q, cls, d, H => ∃ b, PySem.W.exmOne K cls c = some b ∧ (b = true → hbQ K w Q cls d H) ∧ (b = false → hAll K r Q cls d H)
def fineV (fine : Option Str) (v : V) : V := match fine with
  | some w => .str w
  | none => v
def TWord (K : PySem.W.Frag) (hs : List (Value × HB)) (fine : Option Str) : (XK → Hp → VK → Prop) → Hp → VK → Prop := fun tl H Q =>
  tl (fun cls d H' => hAll K hs Q cls d H') H fun v H' => Q (fineV fine v) H'
/-- the suite that a clause has -/
def hbT (K : PySem.W.Frag) (i : Nat) : HB → Addr → Value → Option Addr → TS
  | .word w => fun _ _ _ => tRet (tC (.str w))
  | .fld f => fun a cls d D σ H => ∃ C, cls = .ref C ∧ XfC K C ∧ PySem.W.findIn K (.ref C) f = some none ∧ tXf a cls d C f (tVar i) σ H D.rt
abbrev ClW := Value × HB × Option Nat
/-- the clauses of a def that tells words -/
inductive Clauses (X : Cx) (sg : Scope) (Ng : List Str) : List ExceptHandler → List ClW → Prop
  | nil : Clauses X sg Ng [] []
  | cons {e w : Str} {C : Addr} {j : Nat} {p4 p5 p6 p7 : Pos} {hds : List ExceptHandler} {l : List ClW} (hg : sg.names.lookup e = some .globalImplicit) (hm : X.mg e = some (.ref C)) (hd : (e == ("__debug__" : Str)) = false) (r : Clauses X sg Ng hds l) :
      Clauses X sg Ng (.ExceptHandler (some (.Name e p4)) none [.Return (some (.Constant (.str w) j p5)) p6] p7 :: hds) ((.ref C, .word w, none) :: l)
  | fld {e n f : Str} {C : Addr} {i : Nat} {p4 p5 p6 p7 p8 : Pos} {hds : List ExceptHandler} {l : List ClW} (hg : sg.names.lookup e = some .globalImplicit) (hm : X.mg e = some (.ref C)) (hd : (e == ("__debug__" : Str)) = false)
      (hN : Ng.Nodup) (hi : Ng[i]? = some n) (hl : sg.names.lookup n = some .local) (d1 : (n == ("__debug__" : Str)) = false) (d2 : (n == ("__classdict__" : Str)) = false) (r : Clauses X sg Ng hds l) :
      Clauses X sg Ng (.ExceptHandler (some (.Name e p4)) (some n) [.Return (some (.Attribute (.Name n p5) f p8)) p6] p7 :: hds) ((.ref C, .fld f, some i) :: l)
def clA (K : PySem.W.Frag) (p : ClW) : ClA := (p.1, p.2.2, hbT K (p.2.2.getD 0) p.2.1)
theorem clauses_ok {X Y : Cx} {sg : Scope} {Ng : List Str} (hsc : Y.env.scope = sg) (hmg : Y.mg = X.mg) (hK : Y.K = X.K) (hNg : Y.N = Ng) : ∀ {hds : List ExceptHandler} {l : List ClW}, Clauses X sg Ng hds l → HdsA Y hds (l.map (clA X.K))
  | _, _, .nil => .nil
  | _, _, .cons hg hm hd r => by
    refine .cons ⟨?_, hd, .inl (by rw [hmg]; exact hm)⟩ .non (fun a oe cls d pn _ _ => pss_one (ps_ret pe_str)) (clauses_ok hsc hmg hK hNg r)
    show Y.env.kindOf _ = _
    unfold Env.kindOf
    rw [hsc]
    exact hg
  | _, _, .fld (f := f) (i := i) (p5 := p5) hg hm hd hN hi hl d1 d2 r => by
    refine .cons ⟨?_, hd, .inl (by rw [hmg]; exact hm)⟩ (.som (by rw [hNg]; exact hN) (by rw [hNg]; exact hi) ?_) (fun a oe cls d pn hz hv => ?_) (clauses_ok hsc hmg hK hNg r)
    · show Y.env.kindOf _ = _
      unfold Env.kindOf
      rw [hsc]
      exact hg
    · show Y.env.kindOf _ = _
      unfold Env.kindOf
      rw [hsc]
      exact hl
    · refine pss_one ⟨fun pins s σ H D I ⟨C, e1, e2, e3, e4⟩ => ?_⟩
      have hv1 : PE (Y.suite a ((a, oe) :: pn)) (.Name _ p5) (tVar i) := pe_var (X := Y.suite a ((a, oe) :: pn)) (i := i) (by show Y.N[i]? = _; rw [hNg]; exact hi) (by show Vis Y.env.scope _; rw [hsc]; exact .inl hl) d1 d2
      exact (ps_ret (pe_xf (C := C) (n := f) (by rw [hK]; exact e2) (by rw [hK]; exact e3) hz hv hv1)).run pins s σ H D I e4
theorem wAll_of {K : PySem.W.Frag} {Wout : WX} {D : Ends} {cls : Value} {d : Option Addr} {σ : L2.St} {H : Hp} {X : Cx} {sg : Scope} {Ng : List Str} : ∀ {hds : List ExceptHandler} {l : List ClW}, Clauses X sg Ng hds l → hAll K (l.map fun p => (p.1, p.2.1)) D.rt cls d H → wAll K Wout D (l.map (clA K)) cls d σ H
  | _, _, .nil, h => h.elim
  | _, _, .cons _ _ _ r, ⟨b, h1, h2, h3⟩ => ⟨b, h1, fun hb _ _ => h2 hb, fun hb => wAll_of r (h3 hb)⟩
  | _, _, .fld (i := i) _ _ _ _ hi _ _ _ r, ⟨b, h1, h2, h3⟩ => by
    refine ⟨b, h1, fun hb a _ hset => ?_, fun hb => wAll_of r (h3 hb)⟩
    obtain ⟨C, dd, fs, v, e1, e2, e3, e4, e5, e6, e7⟩ := h2 hb
    exact ⟨C, e1, e2, e3, .ref a, hset, rfl, e1, dd, fs, v, e4, e5, e6, e7⟩
/-- the bodies of defs that tell words -/
inductive WordBody (a : Str) : Option Str → ExceptHandler → List ExceptHandler → List Stmt → Prop
  | word {fine : Str} {j : Nat} {p1 p2 p3 p5 p6 p8 : Pos} {h₀ : ExceptHandler} {hds : List ExceptHandler} : WordBody a (some fine) h₀ hds [.Try [.Expr (.Call (.Name a p1) [] [] p2) p3] (h₀ :: hds) [] [] p8, .Return (some (.Constant (.str fine) j p5)) p6]
  | val {p1 p2 p3 p8 : Pos} {h₀ : ExceptHandler} {hds : List ExceptHandler} : WordBody a none h₀ hds [.Try [.Return (some (.Call (.Name a p1) [] [] p2)) p3] (h₀ :: hds) [] [] p8]
theorem word_gives {X : Cx} {Ng : List Str} {x a q : Str} {fine : Option Str} {sg : Scope} {g : Addr} {cdg : Value} {h₀ : ExceptHandler} {hds : List ExceptHandler} {bg : List Stmt} {l : List ClW} (wb : WordBody a fine h₀ hds bg) (hc : Clauses X sg Ng (h₀ :: hds) l) (h0 : ∀ f : Addr, (L2.start Ng [V.ref f])[0]? = some (some (V.ref f))) :
    LamX.GivesTo X Ng x sg g cdg bg a q (TWord X.K (l.map fun p => (p.1, p.2.1)) fine) := by
  intro f c' s H Q tl act hco h
  cases wb with
  | @word fine' j p1 p2 p3 p5 p6 p8 _ _ =>
    refine ⟨_, pss_cons (ps_tryA (X := (cxOf C8.CX0 X.prog X.w X.K X.mg X.base Ng x sg g cdg X.A X.stack s H C8.E0).nox) (l := l.map (clA X.K))
        (tb := fun W D σ H => ∃ Ech : XK, (∀ cls d σ' H', Ech cls d H' → W cls d σ' H') ∧ σ[0]? = some (some (.ref f)) ∧ H c' = some (LamX.CodeO c' q) ∧ tl Ech H fun _ H' => D.nx σ H')
        rfl rfl takes_none5 (fun W pn xe tk _ => ?_) (clauses_ok (X := X) (Y := (cxOf C8.CX0 X.prog X.w X.K X.mg X.base Ng x sg g cdg X.A X.stack s H C8.E0).nox) (sg := sg) rfl rfl rfl rfl hc)) (pss_one (ps_ret pe_str)), ?_⟩
    · refine ⟨fun pins s' σ H' D I h' => ?_⟩
      obtain ⟨Ech, hW, h1, h2, h3⟩ := h'
      have hp := act W pn xe Ech p1 p2 tk hW
      have hq := pss_one (ps_expr (pos := p3) hp)
      exact hq.run pins s' σ H' D I ⟨h1, h2, h3⟩
    · exact ⟨fun cls d H' => hAll X.K (l.map fun p : ClW => (p.1, p.2.1)) Q cls d H', fun cls d σ' H' z => wAll_of hc z, h0 f, hco, h⟩
  | @val p1 p2 p3 p8 _ _ =>
    refine ⟨_, pss_one (ps_tryA (X := (cxOf C8.CX0 X.prog X.w X.K X.mg X.base Ng x sg g cdg X.A X.stack s H C8.E0).nox) (l := l.map (clA X.K))
        (tb := fun W D σ H => ∃ Ech : XK, (∀ cls d σ' H', Ech cls d H' → W cls d σ' H') ∧ σ[0]? = some (some (.ref f)) ∧ H c' = some (LamX.CodeO c' q) ∧ tl Ech H D.rt)
        rfl rfl takes_none5 (fun W pn xe tk _ => ?_) (clauses_ok (X := X) (Y := (cxOf C8.CX0 X.prog X.w X.K X.mg X.base Ng x sg g cdg X.A X.stack s H C8.E0).nox) (sg := sg) rfl rfl rfl rfl hc)), ?_⟩
    · refine ⟨fun pins s' σ H' D I h' => ?_⟩
      obtain ⟨Ech, hW, h1, h2, h3⟩ := h'
      have hp := act W pn xe Ech p1 p2 tk hW
      have hq := pss_one (ps_ret (pos := p3) hp)
      exact hq.run pins s' σ H' D I ⟨h1, h2, h3⟩
    · exact ⟨fun cls d H' => hAll X.K (l.map fun p : ClW => (p.1, p.2.1)) Q cls d H', fun cls d σ' H' z => wAll_of hc z, h0 f, hco, h⟩
/-- what a def that makes lambdas has -/
def LamOk (X : Cx) : Prop := ∃ c P, X.env.code = .ref c ∧ LamX.TabB X.base X.mg c P ∧ (P, X.env.qual ++ "<lambda>") ∈ LamT.T ∧ ∀ p ∈ LamT.T, p.1 = P → p.2 = X.env.qual ++ "<lambda>"
/-- a def that tells words -/
structure WordOk (K : PySem.W.Frag) (mg : Str → Option Value) (x : Str) (fine : Option Str) (l : List (Value × HB)) : Prop where
  ex : ∃ (g : Addr) (a : Str) (Ng : List Str) (pg : Arguments) (bg : List Stmt) (sg : Scope) (dV kV doc pm cdv ct oc : Value) (an od : Option Addr) (osl : Array (Option Value)) (h₀ : ExceptHandler) (hds : List ExceptHandler) (lw : List ClW),
    mg x = some (.ref g) ∧ PySem.W.keepIn K (.ref g) = true ∧ WordBody a fine h₀ hds bg ∧ l = lw.map (fun p => (p.1, p.2.1)) ∧
    K.lookup g = some ⟨oc, od, .func (PySem.W.fnOf x x pg bg sg dV kV doc pm an cdv ct), osl⟩ ∧
    PySem.W.codeIn K cdv x = true ∧ L2.Binds K (PySem.W.fnOf x x pg bg sg dV kV doc pm an cdv ct) [a] [] ∧
    FnScope Ng [a] sg ∧ Ng[0]? = some a ∧ Vis sg a ∧ (a == ("__debug__" : Str)) = false ∧ (a == ("__classdict__" : Str)) = false ∧ (x == ("__debug__" : Str)) = false ∧ ∀ X : Cx, X.mg = mg → Clauses X sg Ng (h₀ :: hds) lw
def argsNo : Arguments → Bool
  | ⟨[], [], none, [], [], none, []⟩ => true
  | _ => false
section
variable {X : Cx} {xc : XC} {W : WX}
/-- the words told are the table's -/
theorem hAll_of {K : PySem.W.Frag} {top : Nat} {hs : List (Nat × HB)} {l : List (Value × HB)} {k : Nat} {cls : Value} {d : Option Addr} {b : HB} {Q : VK} {H : Hp} (hl : l.length = hs.length ∧ ∀ (i : Nat) (p : Nat × HB) (q : Value × HB), hs[i]? = some p → l[i]? = some q → q.2 = p.2 ∧ PySem.W.exmOne K cls q.1 = some (p.1 == k || p.1 == top))
    (hw : wordJ top hs k = some b) (h : hbQ K b Q cls d H) : hAll K l Q cls d H := by
  induction hs generalizing l with
  | nil => cases hw
  | cons p hs ih =>
    cases l with
    | nil => exact absurd hl.1 (by simp)
    | cons q l =>
      obtain ⟨e1, e2⟩ := hl.2 0 p q rfl rfl
      obtain ⟨qc, qw⟩ := q
      refine ⟨_, e2, fun hb => ?_, fun hb => ?_⟩
      · unfold wordJ at hw
        rw [List.find?_cons, hb] at hw
        have e1 : qw = p.2 := e1
        rw [e1]
        have hw : some p.2 = some b := hw
        cases hw
        exact h
      · unfold wordJ at hw ih
        rw [List.find?_cons, hb] at hw
        exact ih ⟨by simpa using hl.1, fun i a b ha hb' => hl.2 (i + 1) a b ha hb'⟩ hw
def hbOk : HB → Bool
  | .word w => fitS w
  | .fld _ => true
def fineOk : Option Str → Bool
  | some w => fitS w
  | none => true
theorem fit_rp {K : PySem.W.Frag} {Hi : Hp} {w : Str} (h : fitS w = true) : Rp K Hi (.str w) (.str w) := by
  unfold fitS at h
  simp only [Bool.and_eq_true, decide_eq_true_eq] at h
  exact .str w h.1 (Nat.le_trans h.2 line_le)
theorem fineR {K : PySem.W.Frag} {Hi : Hp} {μ : List Addr} {fine : Option Str} {x : SV} {v : V} (h : fineOk fine = true) (r : RpS K Hi μ x v) : RpS K Hi μ (fineJ fine x) (fineV fine v) := by
  cases fine with
  | none => exact r
  | some w => exact fit_rp h
theorem pe_lamwJ {top : Nat} {hs : List (Nat × HB)} {fine : Option Str} {x : Str} {fe : FE} {l : List (Value × HB)} {k : Nat} {params : Arguments} {body : Expr} {scope : Scope} {p lpos pos : Pos}
    (hg : Gl X x) (WD : WordOk X.K X.mg x fine l) (L : LamOk X) (hr : Room (k + 2) X.A) (LS : LamX.LamS X.env.scope scope) (hargs : argsNo params = true)
    (hl : ∀ k c, xc k = some c → l.length = hs.length ∧ ∀ (i : Nat) (p : Nat × HB) (q : Value × HB), hs[i]? = some p → l[i]? = some q → q.2 = p.2 ∧ PySem.W.exmOne X.K c q.1 = some (p.1 == k || p.1 == top))
    (hfit : fineOk fine = true ∧ hs.all (fun p => hbOk p.2) = true)
    (hfld : ∀ (k : Nat) (c : Value) (f : Str), xc k = some c → wordJ top hs k = some (.fld f) → ∃ C : Addr, c = .ref C ∧ XfC X.K C ∧ PySem.W.findIn X.K (.ref C) f = some none)
    (hbody : ∀ (A : Around) (outer : List Env) (s : Shared) (H : Hp) (E : XK) (f c' : Addr), Room k (A.deeper (LamX.lamEnv X scope s.heap.objs.size f c')) → PE (LamX.lamCx X A outer s H E scope f c') body (rE X.K xc (fun cls d _ H => E cls d H) fe)) :
    PE X (.Call (.Name x p) [.Lambda params body scope lpos] [] pos) (RE X xc W (lamwF top hs fine fe)) := by
  obtain ⟨g, a, Ng, pg, bg, sg, dV, kV, doc, pm, cdv, ct, oc, an, od, osl, h₀, hds, lw, w1, w2, wb, el, w3, w4, w5, w6, w7, w8, w9, w10, w11, w12⟩ := WD.ex
  obtain ⟨c, P, l1, l2, l3, l4⟩ := L
  have h0 : ∀ f : Addr, (L2.start Ng [V.ref f])[0]? = some (some (V.ref f)) := fun f => by
    unfold L2.start
    rfl
  have hdef : defaultsOf params X.env = ([], []) := by
    unfold argsNo at hargs
    split at hargs
    · rfl
    · cases hargs
  have hbind : ∀ (q : Str) (cl : List (Str × Addr)) (pm cv ctv : Value), bindArgs (PySem.W.kla_fn "<lambda>" q params body scope cl pm cv ctv) ⟨[], []⟩ = pure [] := by
    unfold argsNo at hargs
    split at hargs
    · exact fun _ _ _ _ _ => rfl
    · cases hargs
  refine PEimp (LamX.pe_lamcall (T := LamT.T) (TT := TWord X.K (lw.map fun p => (p.1, p.2.1)) fine) (t := fun E => rE X.K xc (fun cls d _ H => E cls d H) fe) hg w1 w2 w3 w4 w5 w6 w7 w8 (word_gives wb (w12 X rfl) h0) l2 l1 l3 l4 hr LS hdef hbind hbody w11 w9 w10) fun σ H Q ⟨η, st, Hi, μ, φ, he, hs', hp⟩ => ?_
  rw [← el]
  refine ⟨hs'.tb, fun H1 eN t1 => ?_⟩
  have s1 := hs'.extN eN t1
  refine ⟨η, st, Hi, μ, φ, he, s1, ?_⟩
  unfold lamwF at hp
  cases hr1 : fe η st with
  | ok v st' =>
    rw [hr1] at hp
    intro x' H' Hi' μ' e' s' rv
    exact hp (fineV fine x') H' Hi' μ' e' s' (fineR hfit.1 rv)
  | exc ev st' =>
    rw [hr1] at hp
    unfold excJ at hp
    cases hw : wordJ top hs ev.cls with
    | none => simp only [hw] at hp; exact hp.elim
    | some b =>
      simp only [hw] at hp
      intro cls d H' Hi' μ' e' s' hx
      refine hAll_of (hl _ _ hx.1) hw ?_
      have hb : hbOk b = true := by
        unfold wordJ at hw
        cases hq : hs.find? (fun p => p.1 == ev.cls || p.1 == top) with
        | none => rw [hq] at hw; cases hw
        | some p =>
          rw [hq] at hw
          cases hw
          exact List.all_eq_true.mp hfit.2 p (List.mem_of_find?_eq_some hq)
      cases b with
      | word w => exact hp (.str w) H' Hi' μ' e' s' (show RpS X.K Hi' μ' (.pv (.str w)) (.str w) from fit_rp hb)
      | fld f =>
        obtain ⟨C, ec, xf, nf⟩ := hfld _ _ f hx.1 hw
        obtain ⟨_, ha⟩ := hx
        cases hq : ev.arg with
        | none => rw [hq] at hp; exact hp.elim
        | some q =>
          obtain ⟨f', v⟩ := q
          rw [hq] at hp ha
          obtain ⟨dd, fs, y, a1, a2, a3, a4⟩ := ha
          unfold hbV at hp
          simp only at hp
          split at hp
          · rename_i ef
            subst ef
            exact ⟨C, dd, fs, y, ec, xf, nf, a1, s'.sub _ _ a2, a3, hp y H' Hi' μ' e' s' a4⟩
          · exact hp.elim
  | bad =>
    rw [hr1] at hp
    exact hp.elim
end
end J
end

section
set_option maxRecDepth 100000
set_option maxHeartbeats 2000000
/-! J8: the check of a text against the small language, and what it shows. -/
namespace J
open PySem PySem.Spec PyProof.Rows L2
variable [LamT]

/-- the names of a program's top -/
structure CI where
  fn : List (Option Str)
  gl : List (Option Str)
  di : List (Option Str)
  bl : List Str
  ex : List (Option Str)
  ar : List (Option Nat)
  lm : List (List Str) := []
  wl : List (Str × List (Nat × HB) × Option Str) := []
  top : Nat := 0
  ox : List (Option (Str × Str)) := []
abbrev FB := Str → Bool
def okN (x : Str) : Bool := !(x == ("__debug__" : Str)) && !(x == ("__classdict__" : Str))
def swapB (sc : Scope) (x : Str) (p lp : Pos) (scope : Scope) : Bool :=
  if sc.names.lookup x = some .local then (p.line == lp.line) && !(scope.names.any fun (n, k) => n == x && (k == .local || k == .cell)) else true
def blkB (N : List Str) (sc scope : Scope) (own : List Nat) : Bool :=
  decide (scope.kind = .function) && scope.names.all (fun y => decide (scope.names.lookup y.1 = some y.2)) && own.all (fun i => decide (i < N.length))
    && scope.names.all (fun y => !decide (y.2 = .free) || decide (sc.names.lookup y.1 = some .cell) || decide (sc.names.lookup y.1 = some .free))
    && scope.names.all (fun y => !(decide (y.2 = .local) || decide (y.2 = .cell)) || (ownOf N own).any (fun p => decide (p.1 = y.1)) || !decide (y.1 ∈ N))
def blkF (scope : Scope) : FB := fun x => scope.names.lookup x == some .cell
def isB : IE → Bool
  | .andV _ _ | .orV _ _ | .one _ => true
  | _ => false
def keysB : List (Str × Int) → List (Option Expr) → List Expr → Bool
  | [], [], [] => true
  | (k, v) :: r, some (.Constant (.str k') _ _) :: ks, .Constant (.int v') _ _ :: vs => decide (k = k') && decide (v = v') && keysB r ks vs
  | _, _, _ => false
def intB (d : Int) : Expr → Bool
  | .Constant (.int d') _ _ => decide (d = d')
  | _ => false
def isNamE : Expr → Bool
  | .Name _ _ => true
  | .IfExp _ _ _ _ => true
  | _ => false
def isNilEs : IEs → Bool
  | .nil => true
  | _ => false
def isConE : Expr → Bool
  | .Constant _ _ _ => true
  | _ => false
section
variable (ci : CI) (N : List Str)
def bltB (sc : Scope) (x y : Str) : Bool := decide (x = y) && glB sc x && decide (x ∈ ci.bl)
mutual
def chkE : IE → Scope → FB → Expr → Bool
  | .slot i, sc, fb, e => (match e with | .Name x _ => decide (N[i]? = some x) && visB sc x && okN x | _ => false)
  | .con c, sc, fb, e => (match e with | .Constant c' _ _ => decide (c = c') && constOk c | _ => false)
  | .glob j, sc, fb, e => (match e with | .Name x _ => decide (ci.gl[j]? = some (some x)) && glB sc x && okN x | _ => false)
  | .neg a, sc, fb, e => (match e with | .UnaryOp .USub x _ => chkE a sc fb x | _ => false)
  | .tup es, sc, fb, e => (match e with | .Tuple xs _ _ => chkEs es sc fb xs | _ => false)
  | .lst es, sc, fb, e => (match e with | .List xs _ => chkEs es sc fb xs | _ => false)
  | .mlst es, sc, fb, e => (match e with | .List xs _ => chkEs es sc fb xs | _ => false)
  | .frz a, sc, fb, e => chkE a sc fb e
  | .bin op a b, sc, fb, e => (match e with | .BinOp x op' y _ => decide (op = op') && chkE a sc fb x && chkE b sc fb y | _ => false)
  | .cmp op a b, sc, fb, e => (match e with | .Compare x [op'] [y] _ => decide (op = op') && nset y && chkE a sc fb x && chkE b sc fb y | _ => false)
  | .chain o1 o2 a b c, sc, fb, e => (match e with | .Compare x [p1, p2] [y, z] _ => decide (o1 = p1) && decide (o2 = p2) && nset z && chkE a sc fb x && chkE b sc fb y && chkE c sc fb z | _ => false)
  | .isN neg a, sc, fb, e => (match e with | .Compare x [op'] [.Constant .none _ _] _ => decide (op' = if neg then .IsNot else .Is) && chkE a sc fb x | _ => false)
  | .andV a b, sc, fb, e => (match e with | .BoolOp .And (x :: y :: r) pos => chkE a sc fb x && chkE b sc fb (.BoolOp .And (y :: r) pos) | _ => false)
  | .orV a b, sc, fb, e => (match e with | .BoolOp .Or (x :: y :: r) pos => chkE a sc fb x && chkE b sc fb (.BoolOp .Or (y :: r) pos) | _ => false)
  | .one a, sc, fb, e => (match e with | .BoolOp _ [x] _ => chkE a sc fb x | _ => false)
  | .not a, sc, fb, e => (match e with | .UnaryOp .Not x _ => chkE a sc fb x | _ => false)
  | .ife c a b, sc, fb, e => (match e with | .IfExp x y z _ => chkT c sc fb x && chkE a sc fb y && chkE b sc fb z | _ => false)
  | .call j es, sc, fb, e => (match e with
    | .Call (.Name x _) (y :: ys) [] _ => decide (ci.fn[j]? = some (some x)) && glB sc x && okN x && (y :: ys).all nst && chkEs es sc fb (y :: ys)
    | .Call (.Name x _) [] [] _ => decide (ci.fn[j]? = some (some x)) && glB sc x && okN x && isNilEs es
    | _ => false)
  | .bi f a, sc, fb, e => (match e with | .Call (.Name x _) [y] [] _ => bltB ci sc x (biN f) && nst y && chkE a sc fb y | _ => false)
  | .lenR a, sc, fb, e => (match e with | .Call (.Name x _) [y] [] _ => bltB ci sc x "len" && nst y && chkE a sc fb y | _ => false)
  | .isi a T, sc, fb, e => (match e with | .Call (.Name x _) [y, .Name t _] [] _ => bltB ci sc x "isinstance" && bltB ci sc t T && isiOk T && nst y && chkE a sc fb y | _ => false)
  | .idx a b, sc, fb, e => (match e with | .Subscript x y _ => nsl y && chkE a sc fb x && chkE b sc fb y | _ => false)
  | .idxR a b, sc, fb, e => (match e with | .Subscript x y _ => nsl y && chkE a sc fb x && chkE b sc fb y | _ => false)
  | .slice a lo hi, sc, fb, e => (match e with | .Subscript x (.Slice l h none _) _ => chkE a sc fb x && chkO lo sc fb l && chkO hi sc fb h | _ => false)
  | .comp elt tg it cond own, sc, fb, e => (match e with
    | .ListComp x [⟨t, i, ifs, 0⟩] scope _ => blkB N sc scope own && nset i && (tgIx tg).all (fun j => decide (j ∈ own)) && chkTg N (blkF scope) (relS scope sc) tg t
      && chkI it sc fb t i && chkC cond (relS scope sc) fb ifs && chkE elt (relS scope sc) fb x
    | _ => false)
  | .gget j a, sc, fb, e => (match e with | .Call (.Attribute (.Name x _) m ap) [y] [] cp => decide (ci.di[j]? = some (some x)) && decide (m = "get") && glB sc x && okN x && nst y && (ap.endLine == cp.line) && chkE a sc fb y | _ => false)
  | .srt a, sc, fb, e => (match e with | .Call (.Name x _) [.Call (.Name y _) [z] [] _] [] _ => bltB ci sc x "sorted" && bltB ci sc y "set" && nst z && chkE a sc fb z | _ => false)
  | .dget ks a d, sc, fb, e => (match e with | .Call (.Attribute (.Dict keys vals _) m ap) [y, z] [] cp => decide (m = "get") && keysB ks keys vals && decide ((ks.map (·.1)).Nodup) && decide (ks ≠ []) && decide (ks.length ≤ 15) && intB d z && nst y && (ap.endLine == cp.line) && chkE a sc fb y | _ => false)
  | .join a b, sc, fb, e => (match e with | .Call (.Attribute o m ap) [y] [] cp => decide (m = "join") && isConE o && nst y && (ap.endLine == cp.line) && chkE a sc fb o && chkE b sc fb y | _ => false)
  | .split a b, sc, fb, e => (match e with | .Call (.Attribute o m ap) [y] [] cp => decide (m = "split") && isNamE o && nst y && (ap.endLine == cp.line) && chkE a sc fb o && chkE b sc fb y | _ => false)
  | .srtD a, sc, fb, e => (match e with | .Call (.Name x _) [y] [] _ => bltB ci sc x "sorted" && nst y && chkE a sc fb y | _ => false)
  | .lrng a, sc, fb, e => (match e with | .Call (.Name x _) [.Call (.Name y _) [z] [] _] [] _ => bltB ci sc x "list" && bltB ci sc y "range" && nst z && chkE a sc fb z | _ => false)
  | .mcpy a, sc, fb, e => (match e with | .Call (.Name x _) [y] [] _ => bltB ci sc x "list" && nst y && chkE a sc fb y | _ => false)
  | .srtK j a, sc, fb, e => (match e with | .Call (.Name x _) [y] [⟨some k, .Name z _, _⟩] _ => bltB ci sc x "sorted" && decide (k = "key") && decide (ci.fn[j]? = some (some z)) && decide (ci.ar[j]? = some (some 1)) && glB sc z && okN z && nst y && chkE a sc fb y | _ => false)
  | .look i a, sc, fb, e => chkE a sc fb e
  | .srtL a, sc, fb, e => (match e with | .Call (.Name x _) [y] [⟨some k, .Name z _, _⟩] _ => bltB ci sc x "sorted" && decide (k = "key") && bltB ci sc z "len" && nst y && chkE a sc fb y | _ => false)
  | .mcat a b, sc, fb, e => (match e with | .BinOp x .Add y _ => chkE a sc fb x && chkE b sc fb y | _ => false)
  | .comp2 elt tg it tg1 it1 own, sc, fb, e => (match e with
    | .ListComp x [⟨t, i, [], 0⟩, ⟨t1, i1, [], 0⟩] scope _ => blkB N sc scope own && nset i && nset i1 && (tgIx tg).all (fun j => decide (j ∈ own)) && (tgIxs tg1).all (fun j => decide (j ∈ own)) && chkTg N (blkF scope) (relS scope sc) tg t && chkTg N (blkF scope) (relS scope sc) tg1 t1
      && chkI it sc fb t i && chkI it1 (relS scope sc) fb t1 i1 && chkE elt (relS scope sc) fb x
    | _ => false)
  | .lamw top hs fine a, sc, fb, e => (match e with
    | .Call (.Name x _) [.Lambda ps body scope _] [] _ => decide (N ∈ ci.lm) && fb Str.empty && decide (top = ci.top) && decide ((x, hs, fine) ∈ ci.wl) && glB sc x && argsNo ps && LamX.lamSB sc scope && fineOk fine && hs.all (fun p => hbOk p.2) && chkE a scope (fun _ => false) body
    | _ => false)
  | .never, _, _, _ => true
def chkT : IE → Scope → FB → Expr → Bool
  | .andV a b, sc, fb, e => (match e with | .BoolOp .And (x :: y :: r) pos => isB b && chkT a sc fb x && chkT b sc fb (.BoolOp .And (y :: r) pos) | _ => false)
  | .orV a b, sc, fb, e => (match e with | .BoolOp .Or (x :: y :: r) pos => isB b && chkT a sc fb x && chkT b sc fb (.BoolOp .Or (y :: r) pos) | _ => false)
  | .one a, sc, fb, e => (match e with | .BoolOp _ [x] _ => chkT a sc fb x | _ => false)
  | .not a, sc, fb, e => (match e with | .UnaryOp .Not x _ => chkT a sc fb x | _ => false)
  | .cmp op a b, sc, fb, e => (match e with | .Compare x [op'] [y] _ => decide (op = op') && nset y && chkE a sc fb x && chkE b sc fb y | _ => false)
  | .chain o1 o2 a b c, sc, fb, e => (match e with | .Compare x [p1, p2] [y, z] _ => decide (o1 = p1) && decide (o2 = p2) && nset z && chkE a sc fb x && chkE b sc fb y && chkE c sc fb z | _ => false)
  | .isN neg a, sc, fb, e => (match e with | .Compare x [op'] [.Constant .none _ _] _ => decide (op' = if neg then .IsNot else .Is) && chkE a sc fb x | _ => false)
  | .slot i, sc, fb, e => (match e with | .Name x _ => decide (N[i]? = some x) && visB sc x && okN x | _ => false)
  | .call j es, sc, fb, e => (match e with | .Call (.Name x _) (y :: ys) [] _ => decide (ci.fn[j]? = some (some x)) && glB sc x && okN x && (y :: ys).all nst && chkEs es sc fb (y :: ys) | _ => false)
  | .isi a T, sc, fb, e => (match e with | .Call (.Name x _) [y, .Name t _] [] _ => bltB ci sc x "isinstance" && bltB ci sc t T && isiOk T && nst y && chkE a sc fb y | _ => false)
  | .look i a, sc, fb, e => (match e with | .Call f as ks p => chkE a sc fb (.Call f as ks p) | _ => false)
  | .bi f a, sc, fb, e => (match e with | .Call (.Name x _) [y] [] _ => bltB ci sc x (biN f) && nst y && chkE a sc fb y | _ => false)
  | .idx a b, sc, fb, e => (match e with | .Subscript x y _ => nsl y && chkE a sc fb x && chkE b sc fb y | _ => false)
  | .con c, sc, fb, e => (match e with | .Constant c' _ _ => decide (c = c') && constOk c | _ => false)
  | _, _, _, _ => false
def chkEs : IEs → Scope → FB → List Expr → Bool
  | .nil, sc, fb, es => (match es with | [] => true | _ => false)
  | .cons a as, sc, fb, es => (match es with | x :: xs => nst x && chkE a sc fb x && chkEs as sc fb xs | _ => false)
def chkO : IO → Scope → FB → Option Expr → Bool
  | .none, sc, fb, o => (match o with | none => true | _ => false)
  | .some a, sc, fb, o => (match o with | some x => chkE a sc fb x | _ => false)
def chkC : IO → Scope → FB → List Expr → Bool
  | .none, sc, fb, o => (match o with | [] => true | _ => false)
  | .some a, sc, fb, o => (match o with | [x] => chkT a sc fb x | _ => false)
def chkI : II → Scope → FB → Expr → Expr → Bool
  | .val a, sc, fb, t, e => chkE a sc fb e
  | .rng a, sc, fb, t, e => (match e with | .Call (.Name x _) [y] [] _ => bltB ci sc x "range" && nst y && chkE a sc fb y | _ => false)
  | .rng2 a b, sc, fb, t, e => (match e with | .Call (.Name x _) [y, z] [] _ => bltB ci sc x "range" && nst y && nst z && chkE a sc fb y && chkE b sc fb z | _ => false)
  | .enum a, sc, fb, t, e => (match t, e with | .Tuple _ _ _, .Call (.Name x _) [y] [] _ => bltB ci sc x "enumerate" && nst y && chkE a sc fb y | _, _ => false)
  | .zip a b, sc, fb, t, e => (match t, e with | .Tuple _ _ _, .Call (.Name x _) [y, z] [] _ => bltB ci sc x "zip" && nst y && nst z && chkE a sc fb y && chkE b sc fb z | _, _ => false)
end
end

/-- what the top has made -/
def CallsAt (P : Program) (w : World) (K : PySem.W.Frag) (mg : Str → Option Value) (base : Heap) (kr : Nat) (xc : XC) (ci : CI) (cs : Calls) : Prop :=
  ∀ (j : Nat) (x : Str), ci.fn[j]? = some (some x) → ∃ f fd ps, mg x = some (.ref f) ∧ PySem.W.keepIn K (.ref f) = true ∧ Binds K fd ps [] ∧ FnOk P w K mg base (L2.CX P w) kr f fd ps (spJ K xc ps.length (cs j)) ∧ (∀ (xs : List SV) (st : Store), xs.length ≠ ps.length → cs j xs st = .bad) ∧ ∀ m, ci.ar[j]? = some (some m) → ps.length = m
/-- what an own __init__ does: it notes the field f -/
def spInit (K : PySem.W.Frag) (C : Addr) (f : Str) : Sp := fun vs H Q E => ∃ (a : Addr) (x : V), vs = [.ref a, x] ∧ OexC K C ∧ H a = some (exo a C none) ∧ ∀ dx, H dx = none → dx ≠ a → Q .non (upd (upd H dx (exd dx [(f, x)])) a (exo a C (some dx)))
structure TabJ (P : Program) (w : World) (K : PySem.W.Frag) (mg : Str → Option Value) (base : Heap) (A : Around) (xc : XC) (ci : CI) (g : Glb) (cs : Calls) : Prop where
  calls : ∃ kr, Room (kr + 2) A ∧ CallsAt P w K mg base kr xc ci cs
  globs : ∀ (j : Nat) (x : Str), ci.gl[j]? = some (some x) → ∃ y u v, g.glob[j]? = some v ∧ mg x = some u ∧ RelV y u ∧ ∀ H, Rp K H v y
  dicts : ∀ (j : Nat) (x : Str), ci.di[j]? = some (some x) → ∃ a d, g.dict[j]? = some d ∧ mg x = some (.ref a) ∧ DicR K w a d
  blt : ∀ x, x ∈ ci.bl → mg x = none
  excs : ∀ (k : Nat) (x : Str), ci.ex[k]? = some (some x) → ∃ C bmB B newId initId, xc k = some (.ref C) ∧ mg x = some (.ref C) ∧ ExcBaseFacts B newId initId bmB ∧ PySem.W.excIn K C bmB newId = true ∧ PySem.W.keepIn K (.ref C) = true ∧ PySem.W.subIn K (.ref C) (.type "BaseException") = some true ∧ PySem.W.typeIn K (.ref C) = some (.type "type")
  words : ∀ (x : Str) (hs : List (Nat × HB)) (fine : Option Str), (x, hs, fine) ∈ ci.wl → ∃ l : List (Value × HB), WordOk K mg x fine l ∧ (∀ k c, xc k = some c → l.length = hs.length ∧ ∀ (i : Nat) (p : Nat × HB) (q : Value × HB), hs[i]? = some p → l[i]? = some q → q.2 = p.2 ∧ PySem.W.exmOne K c q.1 = some (p.1 == k || p.1 == ci.top)) ∧
    ∀ (k : Nat) (c : Value) (f : Str), xc k = some c → wordJ ci.top hs k = some (.fld f) → ∃ C : Addr, c = .ref C ∧ XfC K C ∧ PySem.W.findIn K (.ref C) f = some none
  oexs : ∀ (k : Nat) (x f : Str), ci.ox[k]? = some (some (x, f)) → ∃ (C fI : Addr) (fd : FuncData) (ps : List Str), xc k = some (.ref C) ∧ mg x = some (.ref C) ∧ OexC K C ∧ PySem.W.findIn K (.ref C) "__init__" = some (some (.ref fI)) ∧ PySem.W.typeIn K (.ref fI) = some (.type "function") ∧ Binds K fd ps [] ∧ FnOk P w K mg base (L2.CX P w) 1 fI fd ps (spInit K C f)
theorem TabJ.call {P : Program} {w : World} {K : PySem.W.Frag} {mg : Str → Option Value} {base : Heap} {A : Around} {xc : XC} {ci : CI} {g : Glb} {cs : Calls} (T : TabJ P w K mg base A xc ci g cs) (j : Nat) (x : Str) (h : ci.fn[j]? = some (some x)) :
    ∃ k f fd ps, mg x = some (.ref f) ∧ PySem.W.keepIn K (.ref f) = true ∧ Binds K fd ps [] ∧ Room (k + 2) A ∧ FnOk P w K mg base (L2.CX P w) k f fd ps (spJ K xc ps.length (cs j)) ∧ (∀ (xs : List SV) (st : Store), xs.length ≠ ps.length → cs j xs st = .bad) ∧ ∀ m, ci.ar[j]? = some (some m) → ps.length = m := by
  obtain ⟨kr, r, c⟩ := T.calls
  obtain ⟨f, fd, ps, a1, a2, a3, a4, a5, a6⟩ := c j x h
  exact ⟨kr, f, fd, ps, a1, a2, a3, r, a4, a5, a6⟩
structure GoodJ (X : Cx) (xc : XC) (W : WX) (ci : CI) (g : Glb) (cs : Calls) (N : List Str) (sc : Scope) (fb : FB) : Prop where
  tab : TabJ X.prog X.w X.K X.mg X.base X.A xc ci g cs
  hN : X.N = N
  nd : N.Nodup
  hsc : X.env.scope = sc
  calm : X.calm = true
  units : X.A.units + 64 < cLine
  tk : Takes X W
  lam : N ∈ ci.lm → fb Str.empty = true → LamOk X ∧ ∃ kr, Room (kr + 4) X.A ∧ CallsAt X.prog X.w X.K X.mg X.base kr xc ci cs

theorem blkOk_of {N : List Str} {sc scope : Scope} {own : List Nat} (h : blkB N sc scope own = true) : BlkOk N sc scope (ownOf N own) ∧ (ownOf N own).map (·.2) = own := by
  unfold blkB at h
  simp only [Bool.and_eq_true, List.all_eq_true, decide_eq_true_eq, Bool.or_eq_true, Bool.not_eq_true', decide_eq_false_iff_not, List.any_eq_true, Bool.or_eq_false_iff] at h
  obtain ⟨⟨⟨⟨h1, h2⟩, h3⟩, h4⟩, h5⟩ := h
  refine ⟨⟨h1, h2, fun p hp => ?_, fun y hy e => ?_, fun y hy e => ?_⟩, ownOf_ix h3⟩
  · unfold ownOf at hp
    obtain ⟨i, hi, e⟩ := List.mem_filterMap.mp hp
    cases q : N[i]? with
    | none => rw [q] at e; cases e
    | some x => rw [q] at e; cases e; exact q
  · rcases h4 y hy with (h | h) | h
    · exact absurd e h
    · exact .inl h
    · exact .inr h
  · rcases h5 y hy with (h | h) | h
    · rcases e with e | e
      · exact absurd e h.1
      · exact absurd e h.2
    · obtain ⟨p, hp, e⟩ := h
      exact .inl (List.mem_map.mpr ⟨p, hp, e⟩)
    · exact .inr h
section
variable {xc : XC} {ci : CI} {g : Glb} {cs : Calls} {N : List Str}
theorem GoodJ.blk {X : Cx} {W : WX} {sc : Scope} {fb : FB} (G : GoodJ X xc W ci g cs N sc fb) (scope : Scope) (s : Shared) (H : Hp) (C : Addr) (cl : List (Str × Addr)) (fp : List Addr) :
    GoodJ (X.blk s H scope (compEnvC scope cl C X.env) fp) xc (fun _ _ _ _ => False) ci g cs N (relS scope sc) fb :=
  ⟨G.tab, G.hN, G.nd, by rw [← G.hsc]; rfl, G.calm, G.units, takes0, fun h h2 => G.lam h h2⟩
theorem blt_of {X : Cx} {W : WX} {sc : Scope} {fb : FB} (G : GoodJ X xc W ci g cs N sc fb) {x y : Str} (h : bltB ci sc x y = true) : x = y ∧ Gl X y ∧ X.mg y = none := by
  unfold bltB at h
  simp only [Bool.and_eq_true, decide_eq_true_eq] at h
  obtain ⟨⟨rfl, h1⟩, h2⟩ := h
  exact ⟨rfl, gl_of G.hsc h1, G.tab.blt _ h2⟩
theorem okN_of {x : Str} (h : okN x = true) : (x == ("__debug__" : Str)) = false ∧ (x == ("__classdict__" : Str)) = false := by
  unfold okN at h
  simpa only [Bool.and_eq_true, Bool.not_eq_true'] using h
theorem PTsimp {X : Cx} {e : List Expr} {t u : TT} (h : PTs X e t) (i : ∀ σ H Q, u σ H Q → t σ H Q) : PTs X e u := ⟨fun pins s σ H Q I q => h.run pins s σ H Q I (i σ H Q q)⟩
theorem pts_nilJ {X : Cx} {W : WX} : PTs X [] (RT X xc W trueF) := PTsimp pts_nil fun σ H Q ⟨η, st, Hi, μ, φ, he, hs, hp⟩ => hp.here hs rfl
theorem keys_of (X : Cx) (pos : Pos) : ∀ (ks : List (Str × Int)) (keys : List (Option Expr)) (vals : List Expr), keysB ks keys vals = true → PPs X pos keys vals (trsOf ks) ∧ keys.all (·.isSome) = true ∧ keys.length = vals.length ∧ keys.length = ks.length
  | [], keys, vals, h => by
    unfold keysB at h
    split at h
    · exact ⟨pps_nil, rfl, rfl, rfl⟩
    · contradiction
    · cases h
  | k :: ks, keys, vals, h => by
    unfold keysB at h
    split at h
    · contradiction
    · rename_i e
      cases e
      simp only [Bool.and_eq_true, decide_eq_true_eq] at h
      obtain ⟨⟨rfl, rfl⟩, h⟩ := h
      obtain ⟨h1, h2, h3, h4⟩ := keys_of X pos ks _ _ h
      exact ⟨pps_cons pe_str pe_int h1, by simpa using h2, by simp [h3], by simp [h4]⟩
    · cases h
/-- the parts of a comprehension -/
structure CompP (X : Cx) (xc : XC) (W : WX) (ci : CI) (g : Glb) (cs : Calls) (N : List Str) (scope : Scope) (elt : IE) (tg : Tg) (it : II) (cond : IO) (own : List Nat) (x t i : Expr) (ifs : List Expr) : Prop where
  ix : (ownOf N own).map (·.2) = own
  ok : BlkOk X.N X.env.scope scope (ownOf N own)
  tgs : ∀ j ∈ tgIx tg, j ∈ (ownOf N own).map (·.2)
  st : ∀ x, foldedSetIterable i X.env x = pure x
  hi : PI X t i (RI X xc W (evI cs g it))
  hg : ∀ (s : Shared) (H : Hp) (C : Addr) (cl : List (Str × Addr)) (fp : List Addr), PG (X.blk s H scope (compEnvC scope cl C X.env) fp) t (tgV X.K tg)
  ht : ∀ (s : Shared) (H : Hp) (C : Addr) (cl : List (Str × Addr)) (fp : List Addr), PTs (X.blk s H scope (compEnvC scope cl C X.env) fp) ifs (rT X.K xc (fun _ _ _ _ => False) (evC cs g cond))
  he : ∀ (s : Shared) (H : Hp) (C : Addr) (cl : List (Str × Addr)) (fp : List Addr), PE (X.blk s H scope (compEnvC scope cl C X.env) fp) x (rE X.K xc (fun _ _ _ _ => False) (ev cs g elt))
theorem pe_compJ {X : Cx} {W : WX} {sc : Scope} {fb : FB} (G : GoodJ X xc W ci g cs N sc fb) {scope : Scope} {elt : IE} {tg : Tg} {it : II} {cond : IO} {own : List Nat} {x t i : Expr} {ifs : List Expr} {pos : Pos} (C : CompP X xc W ci g cs N scope elt tg it cond own x t i ifs) :
    PE X (.ListComp x [⟨t, i, ifs, 0⟩] scope pos) (RE X xc W (compF (ev cs g elt) tg (evI cs g it) (evC cs g cond) own)) := by
  refine PEimp (pe_lc G.calm (by rw [G.hN]; exact G.nd) C.hi C.ok C.hg C.ht C.he C.st) fun σ H Q h => ?_
  rw [C.ix]
  exact tLc_of (fun j hj => by rw [← C.ix]; exact C.tgs j hj) h
/-- the parts of a comprehension with two clauses -/
structure Comp2P (X : Cx) (xc : XC) (W : WX) (ci : CI) (g : Glb) (cs : Calls) (N : List Str) (scope : Scope) (elt : IE) (tg : Tg) (it : II) (tg1 : Tg) (it1 : II) (own : List Nat) (x t i t1 i1 : Expr) : Prop where
  ix : (ownOf N own).map (·.2) = own
  ok : BlkOk X.N X.env.scope scope (ownOf N own)
  tgs : ∀ j ∈ tgIx tg, j ∈ (ownOf N own).map (·.2)
  tgs1 : ∀ j ∈ tgIxs tg1, j ∈ (ownOf N own).map (·.2)
  st : ∀ x, foldedSetIterable i X.env x = pure x
  st1 : ∀ env x, foldedSetIterable i1 env x = pure x
  hi : PI X t i (RI X xc W (evI cs g it))
  hg : ∀ (s : Shared) (H : Hp) (C : Addr) (cl : List (Str × Addr)) (fp : List Addr), PG (X.blk s H scope (compEnvC scope cl C X.env) fp) t (tgV X.K tg)
  hi1 : ∀ (s : Shared) (H : Hp) (C : Addr) (cl : List (Str × Addr)) (fp : List Addr), PI (X.blk s H scope (compEnvC scope cl C X.env) fp) t1 i1 (rIt X.K xc FW (evI cs g it1))
  hg1 : ∀ (s : Shared) (H : Hp) (C : Addr) (cl : List (Str × Addr)) (fp : List Addr), PG (X.blk s H scope (compEnvC scope cl C X.env) fp) t1 (tgV X.K tg1)
  he : ∀ (s : Shared) (H : Hp) (C : Addr) (cl : List (Str × Addr)) (fp : List Addr), PE (X.blk s H scope (compEnvC scope cl C X.env) fp) x (rE X.K xc FW (ev cs g elt))
theorem pts_blk {X : Cx} (s : Shared) (H : Hp) (scope : Scope) (C : Addr) (cl : List (Str × Addr)) (fp : List Addr) : PTs (X.blk s H scope (compEnvC scope cl C X.env) fp) [] (rT X.K xc FW trueF) := pts_nilJ (X := X.blk s H scope (compEnvC scope cl C X.env) fp) (W := FW)
theorem pe_comp2J {X : Cx} {W : WX} {sc : Scope} {fb : FB} (G : GoodJ X xc W ci g cs N sc fb) {scope : Scope} {elt : IE} {tg tg1 : Tg} {it it1 : II} {own : List Nat} {x t i t1 i1 : Expr} {pos : Pos} (C : Comp2P X xc W ci g cs N scope elt tg it tg1 it1 own x t i t1 i1) :
    PE X (.ListComp x [⟨t, i, [], 0⟩, ⟨t1, i1, [], 0⟩] scope pos) (RE X xc W (comp2F (ev cs g elt) tg (evI cs g it) tg1 (evI cs g it1) own)) := by
  refine PEimp (pe_lc2 G.calm (by rw [G.hN]; exact G.nd) C.hi C.ok C.tgs1 C.hg (fun s H D cl fp => pts_blk (xc := xc) s H scope D cl fp) C.hi1 C.hg1 (fun s H D cl fp => pts_blk (xc := xc) s H scope D cl fp) C.he C.st C.st1) fun σ H Q h => ?_
  rw [C.ix]
  exact tLc2_of (fun j hj => by rw [← C.ix]; exact C.tgs j hj) h
/-- every call keeps its place in the table -/
theorem fnOk_calls {X : Cx} {W : WX} {sc : Scope} {fb : FB} (G : GoodJ X xc W ci g cs N sc fb) {j : Nat} {x : Str} {y : Expr} {ys : List Expr} {p pos : Pos} {fs : Envr → Store → Res (List SV)} (h1 : ci.fn[j]? = some (some x)) (h2 : glB sc x = true) (h3 : okN x = true) (h4 : (y :: ys).all nst = true)
    (hA : PA X (y :: ys) (RA X xc W fs)) : PE X (.Call (.Name x p) (y :: ys) [] pos) (RE X xc W (callF (cs j) fs)) := by
  obtain ⟨k, f, fd, ps, a1, a2, a3, a4, a5, a6, a7⟩ := G.tab.call j x h1
  exact pe_callJ (j := j) a5 (a4.mono (Nat.le_add_right _ _)) (gl_of G.hsc h2) a1 a2 a3 G.tk hA (okN_of h3).1 h4 a6
set_option maxHeartbeats 8000000 in
mutual
theorem chkE_ok : ∀ (ie : IE) {X : Cx} {W : WX} {sc : Scope} {fb : FB} (G : GoodJ X xc W ci g cs N sc fb) (e : Expr), chkE ci N ie sc fb e = true → PE X e (RE X xc W (ev cs g ie))
  | .slot i, X, W, sc, fb, G, e, h => by
    simp only [chkE] at h
    split at h
    · simp only [Bool.and_eq_true, decide_eq_true_eq] at h
      obtain ⟨⟨h1, h2⟩, h3⟩ := h
      exact pe_slotJ (by rw [G.hN]; exact h1) (vis_of G.hsc h2) (okN_of h3).1 (okN_of h3).2
    · cases h
  | .con c, X, W, sc, fb, G, e, h => by
    simp only [chkE] at h
    split at h
    · simp only [Bool.and_eq_true, decide_eq_true_eq] at h
      obtain ⟨rfl, h⟩ := h
      exact pe_conJ h
    · cases h
  | .glob j, X, W, sc, fb, G, e, h => by
    simp only [chkE] at h
    split at h
    · simp only [Bool.and_eq_true, decide_eq_true_eq] at h
      obtain ⟨⟨h1, h2⟩, h3⟩ := h
      obtain ⟨y, u, v, a1, a2, a3, a4⟩ := G.tab.globs j _ h1
      have e : ev cs g (.glob j) = fun _ st => .ok (.pv v) st := by funext η st; simp only [ev, globF, a1, liftV]
      rw [e]
      exact pe_globJ (gl_of G.hsc h2) a2 a3 a4 (okN_of h3).1
    · cases h
  | .neg a, X, W, sc, fb, G, e, h => by
    simp only [chkE] at h
    split at h
    · exact pe_negJ (chkE_ok a G _ h)
    · cases h
  | .tup es, X, W, sc, fb, G, e, h => by
    simp only [chkE] at h
    split at h
    · exact pe_tupJ (chkEs_ok es G _ h).1
    · cases h
  | .lst es, X, W, sc, fb, G, e, h => by
    simp only [chkE] at h
    split at h
    · exact pe_lstJ (chkEs_ok es G _ h).1
    · cases h
  | .mlst es, X, W, sc, fb, G, e, h => by
    simp only [chkE] at h
    split at h
    · exact pe_mlstJ (chkEs_ok es G _ h).1
    · cases h
  | .frz a, X, W, sc, fb, G, e, h => by
    simp only [chkE] at h
    exact pe_frzJ (chkE_ok a G _ h)
  | .bin op a b, X, W, sc, fb, G, e, h => by
    simp only [chkE] at h
    split at h
    · simp only [Bool.and_eq_true, decide_eq_true_eq] at h
      obtain ⟨⟨rfl, h1⟩, h2⟩ := h
      exact pe_binJ op (chkE_ok a G _ h1) (chkE_ok b G _ h2)
    · cases h
  | .cmp op a b, X, W, sc, fb, G, e, h => by
    simp only [chkE] at h
    split at h
    · simp only [Bool.and_eq_true, decide_eq_true_eq] at h
      obtain ⟨⟨⟨rfl, h0⟩, h1⟩, h2⟩ := h
      exact pe_cmpJ op G.units (chkE_ok a G _ h1) (chkE_ok b G _ h2) (nbehind h0)
    · cases h
  | .chain o1 o2 a b c, X, W, sc, fb, G, e, h => by
    simp only [chkE] at h
    split at h
    · simp only [Bool.and_eq_true, decide_eq_true_eq] at h
      obtain ⟨⟨⟨⟨⟨rfl, rfl⟩, h0⟩, h1⟩, h2⟩, h3⟩ := h
      exact pe_chainJ o1 o2 G.units (chkE_ok a G _ h1) (chkE_ok b G _ h2) (chkE_ok c G _ h3) (nlast h0)
    · cases h
  | .isN neg a, X, W, sc, fb, G, e, h => by
    simp only [chkE] at h
    split at h
    · simp only [Bool.and_eq_true, decide_eq_true_eq] at h
      obtain ⟨rfl, h1⟩ := h
      exact pe_isNJ neg (chkE_ok a G _ h1)
    · cases h
  | .andV a b, X, W, sc, fb, G, e, h => by
    simp only [chkE] at h
    split at h
    · simp only [Bool.and_eq_true] at h
      exact pe_andJ (chkE_ok a G _ h.1) (chkE_ok b G _ h.2)
    · cases h
  | .orV a b, X, W, sc, fb, G, e, h => by
    simp only [chkE] at h
    split at h
    · simp only [Bool.and_eq_true] at h
      exact pe_orJ (chkE_ok a G _ h.1) (chkE_ok b G _ h.2)
    · cases h
  | .one a, X, W, sc, fb, G, e, h => by
    simp only [chkE] at h
    split at h
    · exact pe_one (chkE_ok a G _ h)
    · cases h
  | .not a, X, W, sc, fb, G, e, h => by
    simp only [chkE] at h
    split at h
    · exact pe_notJ (chkE_ok a G _ h)
    · cases h
  | .ife c a b, X, W, sc, fb, G, e, h => by
    simp only [chkE] at h
    split at h
    · simp only [Bool.and_eq_true] at h
      exact pe_ifJ (chkT_ok c G _ h.1.1) (chkE_ok a G _ h.1.2) (chkE_ok b G _ h.2)
    · cases h
  | .call j es, X, W, sc, fb, G, e, h => by
    simp only [chkE] at h
    split at h
    · simp only [Bool.and_eq_true, decide_eq_true_eq] at h
      obtain ⟨⟨⟨⟨h1, h2⟩, h3⟩, h4⟩, h5⟩ := h
      exact fnOk_calls G h1 h2 h3 (by simpa using h4) (chkEs_ok es G _ h5).1
    · simp only [Bool.and_eq_true, decide_eq_true_eq] at h
      obtain ⟨⟨⟨h1, h2⟩, h3⟩, h4⟩ := h
      cases es with
      | nil =>
        obtain ⟨k, f, fd, ps, a1, a2, a3, a4, a5, a6, a7⟩ := G.tab.call j _ h1
        exact pe_callJ0 a5 (a4.mono (Nat.le_add_right _ _)) (gl_of G.hsc h2) a1 a2 a3 G.tk (okN_of h3).1 a6
      | cons _ _ => cases h4
    · cases h
  | .bi f a, X, W, sc, fb, G, e, h => by
    simp only [chkE] at h
    split at h
    · simp only [Bool.and_eq_true] at h
      obtain ⟨⟨h1, h2⟩, h3⟩ := h
      obtain ⟨rfl, b1, b2⟩ := blt_of G h1
      exact pe_biJ f G.calm b1 b2 (chkE_ok a G _ h3) h2
    · cases h
  | .lenR a, X, W, sc, fb, G, e, h => by
    simp only [chkE] at h
    split at h
    · simp only [Bool.and_eq_true] at h
      obtain ⟨⟨h1, h2⟩, h3⟩ := h
      obtain ⟨rfl, b1, b2⟩ := blt_of G h1
      exact pe_lenRJ b1 b2 (chkE_ok a G _ h3) h2
    · cases h
  | .isi a T, X, W, sc, fb, G, e, h => by
    simp only [chkE] at h
    split at h
    · simp only [Bool.and_eq_true] at h
      obtain ⟨⟨⟨⟨h1, h2⟩, h3⟩, h4⟩, h5⟩ := h
      obtain ⟨rfl, b1, b2⟩ := blt_of G h1
      obtain ⟨rfl, b3, b4⟩ := blt_of G h2
      exact pe_isiJ b1 b2 h3 b3 b4 (chkE_ok a G _ h5) h4
    · cases h
  | .idx a b, X, W, sc, fb, G, e, h => by
    simp only [chkE] at h
    split at h
    · simp only [Bool.and_eq_true] at h
      exact pe_idxJ (chkE_ok a G _ h.1.2) (chkE_ok b G _ h.2) h.1.1
    · cases h
  | .idxR a b, X, W, sc, fb, G, e, h => by
    simp only [chkE] at h
    split at h
    · simp only [Bool.and_eq_true] at h
      exact pe_idxRJ (chkE_ok a G _ h.1.2) (chkE_ok b G _ h.2) h.1.1
    · cases h
  | .slice a lo hi, X, W, sc, fb, G, e, h => by
    simp only [chkE] at h
    split at h
    · simp only [Bool.and_eq_true] at h
      exact pe_sliJ (chkE_ok a G _ h.1.1) (chkO_ok lo G _ h.1.2) (chkO_ok hi G _ h.2)
    · cases h
  | .comp elt tg it cond own, X, W, sc, fb, G, e, h => by
    simp only [chkE] at h
    split at h
    · rename_i x t i ifs scope pos
      simp only [Bool.and_eq_true, List.all_eq_true, decide_eq_true_eq] at h
      obtain ⟨⟨⟨⟨⟨⟨h1, h2⟩, h3⟩, h4⟩, h5⟩, h6⟩, h7⟩ := h
      obtain ⟨b1, b2⟩ := blkOk_of h1
      exact pe_compJ G ⟨b2, by rw [G.hN, G.hsc]; exact b1, fun j hj => by rw [b2]; exact h3 j hj, noset_of h2, chkI_ok it G _ _ h5, fun s H C cl fp => pg_tgJ G.calm G.hN G.nd (G.blk scope s H C cl fp).hsc rfl h4,
        fun s H C cl fp => chkC_ok cond (G.blk scope s H C cl fp) _ h6, fun s H C cl fp => chkE_ok elt (G.blk scope s H C cl fp) _ h7⟩
    · cases h
  | .gget j a, X, W, sc, fb, G, e, h => by
    simp only [chkE] at h
    split at h
    · simp only [Bool.and_eq_true, decide_eq_true_eq] at h
      obtain ⟨⟨⟨⟨⟨⟨h1, rfl⟩, h2⟩, h3⟩, h4⟩, h5⟩, h6⟩ := h
      obtain ⟨ad, d, a1, a2, a3⟩ := G.tab.dicts j _ h1
      exact pe_ggetJ a1 (gl_of G.hsc h2) a2 a3 (okN_of h3).1 (chkE_ok a G _ h6) h4 h5
    · cases h
  | .srt a, X, W, sc, fb, G, e, h => by
    simp only [chkE] at h
    split at h
    · simp only [Bool.and_eq_true] at h
      obtain ⟨⟨⟨h1, h2⟩, h3⟩, h4⟩ := h
      obtain ⟨rfl, b1, b2⟩ := blt_of G h1
      obtain ⟨rfl, b3, b4⟩ := blt_of G h2
      exact pe_srtJ G.calm G.units b1 b2 b3 b4 (chkE_ok a G _ h4) h3
    · cases h
  | .dget ks a d, X, W, sc, fb, G, e, h => by
    simp only [chkE] at h
    split at h
    · rename_i keys vals dp m ap y z cp
      simp only [Bool.and_eq_true, decide_eq_true_eq] at h
      obtain ⟨⟨⟨⟨⟨⟨⟨⟨rfl, h1⟩, h2⟩, h3⟩, h4⟩, h5⟩, h6⟩, h7⟩, h8⟩ := h
      obtain ⟨k1, k2, k3, k4⟩ := keys_of X dp ks keys vals h1
      unfold intB at h5
      split at h5
      · simp only [decide_eq_true_eq] at h5
        subst h5
        exact pe_dgetJ G.units k1 k2 k3 (fun q => h3 (List.length_eq_zero_iff.mp (by rw [← k4, q]; rfl))) (by rw [k4]; exact h4) h4 h2 (chkE_ok a G _ h8) h6 h7
      · cases h5
    · cases h
  | .join a b, X, W, sc, fb, G, e, h => by
    simp only [chkE] at h
    split at h
    · rename_i o m ap y cp
      simp only [Bool.and_eq_true, decide_eq_true_eq] at h
      obtain ⟨⟨⟨⟨⟨rfl, h1⟩, h2⟩, h3⟩, h4⟩, h5⟩ := h
      exact pe_joinJ (chkE_ok a G _ h4) (chkE_ok b G _ h5) h2 (by cases o <;> first | rfl | cases h1) h3
    · cases h
  | .split a b, X, W, sc, fb, G, e, h => by
    simp only [chkE] at h
    split at h
    · rename_i o m ap y cp
      simp only [Bool.and_eq_true, decide_eq_true_eq] at h
      obtain ⟨⟨⟨⟨⟨rfl, h1⟩, h2⟩, h3⟩, h4⟩, h5⟩ := h
      exact pe_splitJ (chkE_ok a G _ h4) (chkE_ok b G _ h5) h2 (by cases o <;> first | rfl | cases h1) h3
    · cases h
  | .srtD a, X, W, sc, fb, G, e, h => by
    simp only [chkE] at h
    split at h
    · simp only [Bool.and_eq_true] at h
      obtain ⟨⟨h1, h2⟩, h3⟩ := h
      obtain ⟨rfl, b1, b2⟩ := blt_of G h1
      exact pe_srtDJ G.units b1 b2 (chkE_ok a G _ h3) h2
    · cases h
  | .lrng a, X, W, sc, fb, G, e, h => by
    simp only [chkE] at h
    split at h
    · simp only [Bool.and_eq_true] at h
      obtain ⟨⟨⟨h1, h2⟩, h3⟩, h4⟩ := h
      obtain ⟨rfl, b1, b2⟩ := blt_of G h1
      obtain ⟨rfl, b3, b4⟩ := blt_of G h2
      exact pe_lrngJ G.calm b1 b2 b3 b4 (chkE_ok a G _ h4) h3
    · cases h
  | .mcpy a, X, W, sc, fb, G, e, h => by
    simp only [chkE] at h
    split at h
    · simp only [Bool.and_eq_true] at h
      obtain ⟨⟨h1, h2⟩, h3⟩ := h
      obtain ⟨rfl, b1, b2⟩ := blt_of G h1
      exact pe_mcpyJ b1 b2 (chkE_ok a G _ h3) h2
    · cases h
  | .srtK j a, X, W, sc, fb, G, e, h => by
    simp only [chkE] at h
    split at h
    · simp only [Bool.and_eq_true, decide_eq_true_eq] at h
      obtain ⟨⟨⟨⟨⟨⟨⟨h1, rfl⟩, h2⟩, h3⟩, h4⟩, h5⟩, h6⟩, h7⟩ := h
      obtain ⟨rfl, b1, b2⟩ := blt_of G h1
      obtain ⟨k, f, fd, ps, a1, a2, a3, a4, a5, a6, a7⟩ := G.tab.call j _ h2
      exact pe_srtKJ G.units a5 a4 a3 (a7 1 h3) b1 b2 (gl_of G.hsc h4) a1 (okN_of h5).1 (chkE_ok a G _ h7) h6
    · cases h
  | .look i a, X, W, sc, fb, G, e, h => by
    simp only [chkE] at h
    exact pe_lookJ i (chkE_ok a G _ h)
  | .srtL a, X, W, sc, fb, G, e, h => by
    simp only [chkE] at h
    split at h
    · simp only [Bool.and_eq_true, decide_eq_true_eq] at h
      obtain ⟨⟨⟨⟨h1, rfl⟩, h2⟩, h3⟩, h4⟩ := h
      obtain ⟨rfl, b1, b2⟩ := blt_of G h1
      obtain ⟨rfl, c1, c2⟩ := blt_of G h2
      exact pe_srtLJ G.units b1 b2 c1 c2 (chkE_ok a G _ h4) h3
    · cases h
  | .mcat a b, X, W, sc, fb, G, e, h => by
    simp only [chkE] at h
    split at h
    · simp only [Bool.and_eq_true] at h
      exact pe_mcatJ (chkE_ok a G _ h.1) (chkE_ok b G _ h.2)
    · cases h
  | .comp2 elt tg it tg1 it1 own, X, W, sc, fb, G, e, h => by
    simp only [chkE] at h
    split at h
    · rename_i x t i t1 i1 scope pos
      simp only [Bool.and_eq_true, List.all_eq_true, decide_eq_true_eq] at h
      obtain ⟨⟨⟨⟨⟨⟨⟨⟨⟨h1, h2⟩, h3⟩, h4⟩, h5⟩, h6⟩, h7⟩, h8⟩, h9⟩, h10⟩ := h
      obtain ⟨b1, b2⟩ := blkOk_of h1
      exact pe_comp2J G ⟨b2, by rw [G.hN, G.hsc]; exact b1, fun j hj => by rw [b2]; exact h4 j hj, fun j hj => by rw [b2]; exact h5 j hj, noset_of h2, fun env => noset_of h3, chkI_ok it G _ _ h8, fun s H C cl fp => pg_tgJ G.calm G.hN G.nd (G.blk scope s H C cl fp).hsc rfl h6,
        fun s H C cl fp => chkI_ok it1 (G.blk scope s H C cl fp) _ _ h9, fun s H C cl fp => pg_tgJ G.calm G.hN G.nd (G.blk scope s H C cl fp).hsc rfl h7, fun s H C cl fp => chkE_ok elt (G.blk scope s H C cl fp) _ h10⟩
    · cases h
  | .lamw top hs fine a, X, W, sc, fb, G, e, h => by
    simp only [chkE] at h
    split at h
    · simp only [Bool.and_eq_true, decide_eq_true_eq] at h
      obtain ⟨⟨⟨⟨⟨⟨⟨⟨⟨h1, h2⟩, rfl⟩, h4⟩, h5⟩, h6⟩, h7⟩, h8⟩, h9⟩, h10⟩ := h
      obtain ⟨L, kr, r4, ca⟩ := G.lam h1 h2
      obtain ⟨l, WD, hl, hf⟩ := G.tab.words _ _ _ h4
      have LS : LamX.LamS X.env.scope _ := LamX.lamS_by (by rw [G.hsc]; exact h7)
      exact pe_lamwJ (k := kr + 2) (gl_of G.hsc h5) WD L r4 LS h6 hl ⟨h8, h9⟩ hf fun A outer s H E f c' r2 =>
        chkE_ok a (X := LamX.lamCx X A outer s H E _ f c') (W := fun cls d _ H => E cls d H) (fb := fun _ => false)
          { tab := ⟨⟨kr, r2, ca⟩, G.tab.globs, G.tab.dicts, G.tab.blt, G.tab.excs, G.tab.words, G.tab.oexs⟩, hN := G.hN, nd := G.nd, hsc := rfl, calm := rfl, units := r2.units, tk := takes_of rfl rfl rfl rfl, lam := fun _ h => by cases h } _ h10
    · cases h
  | .never, X, W, sc, fb, G, e, h => pe_neverJ
theorem chkT_ok : ∀ (ie : IE) {X : Cx} {W : WX} {sc : Scope} {fb : FB} (G : GoodJ X xc W ci g cs N sc fb) (e : Expr), chkT ci N ie sc fb e = true → PT X e (RT X xc W (tst (ev cs g ie)))
  | .slot i, X, W, sc, fb, G, e, h => by
    simp only [chkT] at h
    split at h
    · simp only [Bool.and_eq_true, decide_eq_true_eq] at h
      obtain ⟨⟨h1, h2⟩, h3⟩ := h
      exact pt_plainJ (pe_slotJ (by rw [G.hN]; exact h1) (vis_of G.hsc h2) (okN_of h3).1 (okN_of h3).2) rfl
    · cases h
  | .con c, X, W, sc, fb, G, e, h => by
    simp only [chkT] at h
    split at h
    · simp only [Bool.and_eq_true, decide_eq_true_eq] at h
      obtain ⟨rfl, h⟩ := h
      exact pt_plainJ (pe_conJ h) rfl
    · cases h
  | .cmp op a b, X, W, sc, fb, G, e, h => by
    simp only [chkT] at h
    split at h
    · simp only [Bool.and_eq_true, decide_eq_true_eq] at h
      obtain ⟨⟨⟨rfl, h0⟩, h1⟩, h2⟩ := h
      exact pt_cmpJ op G.units (chkE_ok a G _ h1) (chkE_ok b G _ h2) (nbehind h0)
    · cases h
  | .chain o1 o2 a b c, X, W, sc, fb, G, e, h => by
    simp only [chkT] at h
    split at h
    · simp only [Bool.and_eq_true, decide_eq_true_eq] at h
      obtain ⟨⟨⟨⟨⟨rfl, rfl⟩, h0⟩, h1⟩, h2⟩, h3⟩ := h
      exact pt_chainJ o1 o2 G.units (chkE_ok a G _ h1) (chkE_ok b G _ h2) (chkE_ok c G _ h3) (nlast h0)
    · cases h
  | .isN neg a, X, W, sc, fb, G, e, h => by
    simp only [chkT] at h
    split at h
    · simp only [Bool.and_eq_true, decide_eq_true_eq] at h
      obtain ⟨rfl, h1⟩ := h
      exact pt_isNJ neg (chkE_ok a G _ h1)
    · cases h
  | .andV a b, X, W, sc, fb, G, e, h => (chkW_ok (.andV a b) G e h rfl).pt
  | .orV a b, X, W, sc, fb, G, e, h => (chkW_ok (.orV a b) G e h rfl).pt
  | .one a, X, W, sc, fb, G, e, h => (chkW_ok (.one a) G e h rfl).pt
  | .not a, X, W, sc, fb, G, e, h => by
    simp only [chkT] at h
    split at h
    · exact pt_notJ (chkT_ok a G _ h)
    · cases h
  | .call j es, X, W, sc, fb, G, e, h => by
    simp only [chkT] at h
    split at h
    · simp only [Bool.and_eq_true, decide_eq_true_eq] at h
      obtain ⟨⟨⟨⟨h1, h2⟩, h3⟩, h4⟩, h5⟩ := h
      exact pt_plainJ (fnOk_calls G h1 h2 h3 (by simpa using h4) (chkEs_ok es G _ h5).1) rfl
    · cases h
  | .bi f a, X, W, sc, fb, G, e, h => by
    simp only [chkT] at h
    split at h
    · simp only [Bool.and_eq_true] at h
      obtain ⟨⟨h1, h2⟩, h3⟩ := h
      obtain ⟨rfl, b1, b2⟩ := blt_of G h1
      exact pt_plainJ (pe_biJ f G.calm b1 b2 (chkE_ok a G _ h3) h2) rfl
    · cases h
  | .isi a T, X, W, sc, fb, G, e, h => by
    simp only [chkT] at h
    split at h
    · simp only [Bool.and_eq_true] at h
      obtain ⟨⟨⟨⟨h1, h2⟩, h3⟩, h4⟩, h5⟩ := h
      obtain ⟨rfl, b1, b2⟩ := blt_of G h1
      obtain ⟨rfl, b3, b4⟩ := blt_of G h2
      exact pt_plainJ (pe_isiJ b1 b2 h3 b3 b4 (chkE_ok a G _ h5) h4) rfl
    · cases h
  | .idx a b, X, W, sc, fb, G, e, h => by
    simp only [chkT] at h
    split at h
    · simp only [Bool.and_eq_true] at h
      exact pt_plainJ (pe_idxJ (chkE_ok a G _ h.1.2) (chkE_ok b G _ h.2) h.1.1) rfl
    · cases h
  | .glob _, _, _, _, _, _, _, h => by simp [chkT] at h
  | .neg _, _, _, _, _, _, _, h => by simp [chkT] at h
  | .tup _, _, _, _, _, _, _, h => by simp [chkT] at h
  | .lst _, _, _, _, _, _, _, h => by simp [chkT] at h
  | .mlst _, _, _, _, _, _, _, h => by simp [chkT] at h
  | .frz _, _, _, _, _, _, _, h => by simp [chkT] at h
  | .bin _ _ _, _, _, _, _, _, _, h => by simp [chkT] at h
  | .ife _ _ _, _, _, _, _, _, _, h => by simp [chkT] at h
  | .lenR _, _, _, _, _, _, _, h => by simp [chkT] at h
  | .idxR _ _, _, _, _, _, _, _, h => by simp [chkT] at h
  | .slice _ _ _, _, _, _, _, _, _, h => by simp [chkT] at h
  | .comp _ _ _ _ _, _, _, _, _, _, _, h => by simp [chkT] at h
  | .gget _ _, _, _, _, _, _, _, h => by simp [chkT] at h
  | .srt _, _, _, _, _, _, _, h => by simp [chkT] at h
  | .dget _ _ _, _, _, _, _, _, _, h => by simp [chkT] at h
  | .join _ _, _, _, _, _, _, _, h => by simp [chkT] at h
  | .split _ _, _, _, _, _, _, _, h => by simp [chkT] at h
  | .srtD _, _, _, _, _, _, _, h => by simp [chkT] at h
  | .lrng _, _, _, _, _, _, _, h => by simp [chkT] at h
  | .mcpy _, _, _, _, _, _, _, h => by simp [chkT] at h
  | .srtK _ _, _, _, _, _, _, _, h => by simp [chkT] at h
  | .look i a, X, W, sc, fb, G, e, h => by
    simp only [chkT] at h
    split at h
    · exact pt_plainJ (pe_lookJ i (chkE_ok a G _ h)) rfl
    · cases h
  | .srtL _, _, _, _, _, _, _, h => by simp [chkT] at h
  | .mcat _ _, _, _, _, _, _, _, h => by simp [chkT] at h
  | .comp2 _ _ _ _ _ _, _, _, _, _, _, _, h => by simp [chkT] at h
  | .lamw _ _ _ _, _, _, _, _, _, _, h => by simp [chkT] at h
  | .never, _, _, _, _, _, _, h => by simp [chkT] at h
theorem chkW_ok : ∀ (ie : IE) {X : Cx} {W : WX} {sc : Scope} {fb : FB} (G : GoodJ X xc W ci g cs N sc fb) (e : Expr), chkT ci N ie sc fb e = true → isB ie = true → PW X e (RT X xc W (tst (ev cs g ie)))
  | .andV a b, X, W, sc, fb, G, e, h, _ => by
    simp only [chkT] at h
    split at h
    · simp only [Bool.and_eq_true] at h
      exact pw_andJ (chkT_ok a G _ h.1.2) (chkW_ok b G _ h.2 h.1.1)
    · cases h
  | .orV a b, X, W, sc, fb, G, e, h, _ => by
    simp only [chkT] at h
    split at h
    · simp only [Bool.and_eq_true] at h
      exact pw_orJ (chkT_ok a G _ h.1.2) (chkW_ok b G _ h.2 h.1.1)
    · cases h
  | .one a, X, W, sc, fb, G, e, h, _ => by
    simp only [chkT] at h
    split at h
    · rename_i op x pos
      cases op with
      | And => exact pw_and1 (chkT_ok a G _ h)
      | Or => exact pw_or1 (chkT_ok a G _ h)
    · cases h
  | .slot _, _, _, _, _, _, _, _, h => by cases h
  | .con _, _, _, _, _, _, _, _, h => by cases h
  | .glob _, _, _, _, _, _, _, _, h => by cases h
  | .neg _, _, _, _, _, _, _, _, h => by cases h
  | .tup _, _, _, _, _, _, _, _, h => by cases h
  | .lst _, _, _, _, _, _, _, _, h => by cases h
  | .mlst _, _, _, _, _, _, _, _, h => by cases h
  | .frz _, _, _, _, _, _, _, _, h => by cases h
  | .bin _ _ _, _, _, _, _, _, _, _, h => by cases h
  | .cmp _ _ _, _, _, _, _, _, _, _, h => by cases h
  | .chain _ _ _ _ _, _, _, _, _, _, _, _, h => by cases h
  | .isN _ _, _, _, _, _, _, _, _, h => by cases h
  | .not _, _, _, _, _, _, _, _, h => by cases h
  | .ife _ _ _, _, _, _, _, _, _, _, h => by cases h
  | .call _ _, _, _, _, _, _, _, _, h => by cases h
  | .bi _ _, _, _, _, _, _, _, _, h => by cases h
  | .isi _ _, _, _, _, _, _, _, _, h => by cases h
  | .idx _ _, _, _, _, _, _, _, _, h => by cases h
  | .idxR _ _, _, _, _, _, _, _, _, h => by cases h
  | .lenR _, _, _, _, _, _, _, _, h => by cases h
  | .slice _ _ _, _, _, _, _, _, _, _, h => by cases h
  | .comp _ _ _ _ _, _, _, _, _, _, _, _, h => by cases h
  | .gget _ _, _, _, _, _, _, _, _, h => by cases h
  | .srt _, _, _, _, _, _, _, _, h => by cases h
  | .dget _ _ _, _, _, _, _, _, _, _, h => by cases h
  | .join _ _, _, _, _, _, _, _, _, h => by cases h
  | .split _ _, _, _, _, _, _, _, _, h => by cases h
  | .srtD _, _, _, _, _, _, _, _, h => by cases h
  | .lrng _, _, _, _, _, _, _, _, h => by cases h
  | .mcpy _, _, _, _, _, _, _, _, h => by cases h
  | .srtK _ _, _, _, _, _, _, _, _, h => by cases h
  | .look _ _, _, _, _, _, _, _, _, h => by cases h
  | .srtL _, _, _, _, _, _, _, _, h => by cases h
  | .mcat _ _, _, _, _, _, _, _, _, h => by cases h
  | .comp2 _ _ _ _ _ _, _, _, _, _, _, _, _, h => by cases h
  | .lamw _ _ _ _, _, _, _, _, _, _, _, h => by cases h
  | .never, _, _, _, _, _, _, _, h => by cases h
theorem chkEs_ok : ∀ (es : IEs) {X : Cx} {W : WX} {sc : Scope} {fb : FB} (G : GoodJ X xc W ci g cs N sc fb) (e : List Expr), chkEs ci N es sc fb e = true → PA X e (RA X xc W (evs cs g es)) ∧ True
  | .nil, X, W, sc, fb, G, e, h => by
    simp only [chkEs] at h
    split at h
    · exact ⟨pa_nilJ, trivial⟩
    · cases h
  | .cons a as, X, W, sc, fb, G, e, h => by
    simp only [chkEs] at h
    split at h
    · simp only [Bool.and_eq_true] at h
      exact ⟨pa_consJ (chkE_ok a G _ h.1.2) (chkEs_ok as G _ h.2).1 h.1.1, trivial⟩
    · cases h
theorem chkO_ok : ∀ (o : IO) {X : Cx} {W : WX} {sc : Scope} {fb : FB} (G : GoodJ X xc W ci g cs N sc fb) (e : Option Expr), chkO ci N o sc fb e = true → PO X e (rPO X xc W (evO cs g o))
  | .none, X, W, sc, fb, G, e, h => by
    simp only [chkO] at h
    split at h
    · exact po_noneJ
    · cases h
  | .some a, X, W, sc, fb, G, e, h => by
    simp only [chkO] at h
    split at h
    · exact po_someJ (chkE_ok a G _ h)
    · cases h
theorem chkC_ok : ∀ (o : IO) {X : Cx} {W : WX} {sc : Scope} {fb : FB} (G : GoodJ X xc W ci g cs N sc fb) (e : List Expr), chkC ci N o sc fb e = true → PTs X e (RT X xc W (evC cs g o))
  | .none, X, W, sc, fb, G, e, h => by
    simp only [chkC] at h
    split at h
    · exact pts_nilJ
    · cases h
  | .some a, X, W, sc, fb, G, e, h => by
    simp only [chkC] at h
    split at h
    · exact pts_one (chkT_ok a G _ h)
    · cases h
theorem chkI_ok : ∀ (it : II) {X : Cx} {W : WX} {sc : Scope} {fb : FB} (G : GoodJ X xc W ci g cs N sc fb) (t e : Expr), chkI ci N it sc fb t e = true → PI X t e (RI X xc W (evI cs g it))
  | .val a, X, W, sc, fb, G, t, e, h => by
    simp only [chkI] at h
    exact pi_valJ (chkE_ok a G _ h)
  | .rng a, X, W, sc, fb, G, t, e, h => by
    simp only [chkI] at h
    split at h
    · simp only [Bool.and_eq_true] at h
      obtain ⟨⟨h1, h2⟩, h3⟩ := h
      obtain ⟨rfl, b1, b2⟩ := blt_of G h1
      exact pi_rngJ b1 b2 (chkE_ok a G _ h3) h2
    · cases h
  | .rng2 a b, X, W, sc, fb, G, t, e, h => by
    simp only [chkI] at h
    split at h
    · simp only [Bool.and_eq_true] at h
      obtain ⟨⟨⟨⟨h1, h2⟩, h3⟩, h4⟩, h5⟩ := h
      obtain ⟨rfl, b1, b2⟩ := blt_of G h1
      exact pi_rng2J b1 b2 (chkE_ok a G _ h4) (chkE_ok b G _ h5) h2 h3
    · cases h
  | .enum a, X, W, sc, fb, G, t, e, h => by
    simp only [chkI] at h
    split at h
    · simp only [Bool.and_eq_true] at h
      obtain ⟨⟨h1, h2⟩, h3⟩ := h
      obtain ⟨rfl, b1, b2⟩ := blt_of G h1
      exact pi_enumTJ b1 b2 (chkE_ok a G _ h3) h2
    · cases h
  | .zip a b, X, W, sc, fb, G, t, e, h => by
    simp only [chkI] at h
    split at h
    · simp only [Bool.and_eq_true] at h
      obtain ⟨⟨⟨⟨h1, h2⟩, h3⟩, h4⟩, h5⟩ := h
      obtain ⟨rfl, b1, b2⟩ := blt_of G h1
      exact pi_zipJ b1 b2 (chkE_ok a G _ h4) (chkE_ok b G _ h5) h2 h3
    · cases h
end
end
end J
end

section
set_option maxRecDepth 100000
set_option maxHeartbeats 2000000
/-! J8o: exceptions with an own __init__ that notes a field. -/
namespace J
open PySem PySem.Spec PyProof.Rows L2
/-- what the class above must have: its __init__ is ValueError's -/
structure LinC (K : PySem.W.Frag) (L : Addr) : Prop where
  rd : PySem.W.readsIn K L (.type "type") = true
  ga : PySem.W.specialIn K (.ref L) "__getattribute__" = some (some (.builtin "type.__getattribute__"))
  at_ : PySem.W.findCls K (.ref L) (.type "type") "__init__" = some (.val (.builtin "ValueError.__init__"))
def linB (K : PySem.W.Frag) (L : Addr) : Bool := PySem.W.readsIn K L (.type "type") && (decide (PySem.W.specialIn K (.ref L) "__getattribute__" = some (some (.builtin "type.__getattribute__"))) && (match PySem.W.findCls K (.ref L) (.type "type") "__init__" with
  | some (.val (.builtin b)) => decide (b = "ValueError.__init__")
  | _ => false))
theorem linB_ok {K : PySem.W.Frag} {L : Addr} (h : linB K L = true) : LinC K L := by
  obtain ⟨h1, h⟩ := Bool.and_eq_true_iff.mp h
  obtain ⟨h2, h3⟩ := Bool.and_eq_true_iff.mp h
  refine ⟨h1, of_decide_eq_true h2, ?_⟩
  split at h3
  · rename_i b e
    rw [e, of_decide_eq_true h3]
  · cases h3
theorem call_attr_eq {o : Expr} {name : Str} {apos pos : Pos} {args : List Expr} {env : Env} (hbase : attributeBase o name env (eval o env) = eval o env) (hfew : methodCallForm (args.length + ([] : List Keyword).length) (backTo pos (starEach args env)) (backToKw pos (keywordEach [] env)) = true) (hline : (apos.endLine == pos.line) = true) :
    eval (.Call (.Attribute o name apos) args [] pos) env = (do
      let ov ← eval o env
      standAt apos.atName
      let (f, first) ← holding [ov] (getMethod ov name (do return (← importBound o env).getD true))
      callWith pos f first (backTo pos (starEach args env)) (backToKw pos (keywordEach [] env))) := by
  rw [arm_eval_Call, hbase]
  have hpos : methodCallPos true o env apos pos = pure pos := by unfold methodCallPos; simp [hline]
  unfold methodCall
  rw [hfew, hpos]
  rfl
section
variable {X : Cx} {o e : Expr} {es : List Expr} {to te : TE} {ta : TA} {p p' p1 p2 pos : Pos}
/-- C.__init__(self, ..) -/
theorem pe_lineinit {x : Str} {L : Addr} {pl : Sem Bool} (hg : Gl X x) (hm : X.mg x = some (.ref L)) (T0 : LinC X.K L) (ha : PA X (e :: es) ta) (hdb : (x == ("__debug__" : Str)) = false)
    (hc : eval (.Call (.Attribute (.Name x p1) "__init__" p2) (e :: es) [] pos) X.env = (do
      let ov ← eval (.Name x p1) X.env
      standAt p2.atName
      let (f, first) ← holding [ov] (getMethod ov "__init__" pl)
      callWith pos f first (backTo pos (starEach (e :: es) X.env)) (backToKw pos (keywordEach [] X.env))) := by rfl)
    (he : starEach (e :: es) X.env = (false, eval e X.env) :: starEach es X.env := by rfl) (hpl : (backTo pos (starEach es X.env)).any (·.1) = false := by rfl) :
    PE X (.Call (.Attribute (.Name x p1) "__init__" p2) (e :: es) [] pos) (tVeI X.K ta) := by
  refine ⟨fun pins s σ H Q I h => ?_⟩
  refine PySem.W.methodCall_KW (ld_glob I hg hm ?_ hdb) hc
  refine PySem.W.method_cls I.kIn T0.ga (PySem.W.cls_value I.kIn T0.rd T0.at_ rfl ?_)
  show wpAny _ _ (callWith pos (Value.builtin "ValueError.__init__") [] (backTo pos (starEach (e :: es) X.env)) []) _ _ _
  refine PyProof.Rows.callWith_method1 (thn (ha.run pos pins _ σ H _ (I.tok _) h) fun us s1 ⟨vs, H1, I1, r1, a, C, ws, ev, hl, T, ea, q⟩ => ?_) he hpl
  subst ev
  cases r1 with
  | @cons _ u0 _ ur ra rw' =>
    obtain rfl : u0 = Value.ref a := ra
    have hlen : ur.length ≤ sizeLine := by
      rw [← Paired.length rw', sizeLine_eq]
      omega
    exact oinit_ok T I1 ea hlen fun s' J => ⟨.non, H1, J, rfl, q⟩
end
variable [LamT]
/-- raise C(v), C with an own __init__ -/
theorem ps_raisxJ {X : Cx} {xc : XC} {W : WX} {k : Nat} {f x : Str} {C fI : Addr} {fd : FuncData} {ps : List Str} {fe : FE} {v : Expr} {p p2 pos : Pos} (hc : X.calm = true) (tk : Takes X W) (hk : xc k = some (.ref C)) (hm : X.mg x = some (.ref C)) (T : OexC X.K C)
    (iC : PySem.W.findIn X.K (.ref C) "__init__" = some (some (.ref fI))) (tI : PySem.W.typeIn X.K (.ref fI) = some (.type "function")) (hb : Binds X.K fd ps []) (F : FnOk X.prog X.w X.K X.mg X.base (L2.CX X.prog X.w) 1 fI fd ps (spInit X.K C f)) (hr : Room 2 X.A)
    (hg : Gl X x) (hd : (x == ("__debug__" : Str)) = false) (he : PE X v (RE X xc W fe)) (hn : nst v = true) : PS X (.Raise (some (.Call (.Name x p) [v] [] p2)) none pos) (RSt X xc W (raisxS k f fe)) := by
  refine PSimp (L2.ps_raise hc tk (pmk_oex (ds := []) (dvs := []) T iC tI F hr hb .nil (fun pins σ H s e s' I z => passes_call tk (E := fun _ _ _ => False) (fun _ _ _ _ h => h.elim) pins σ H s e s' I z) hg hm (pa_consJ (es := []) he pa_nilJ hn) hd (star_cons hn) (by rfl))) fun D σ H ⟨η, st, Hi, μ, φ, hη, hst, hp⟩ => ?_
  refine rG_of hη hst ?_
  unfold raisxS at hp
  unfold consF nilF
  cases hq : fe η st with
  | bad => rw [hq] at hp; exact hp.elim
  | exc e st' =>
    rw [hq] at hp
    exact fun cls d H' Hi' μ' e1 s1 q => hp σ cls d H' Hi' μ' e1 s1 (hη.mono e1) q
  | ok y st' =>
    rw [hq] at hp
    intro vs H1 Hi1 μ1 e1 s1 r
    have r : RpSs X.K Hi1 μ1 [y] vs := r
    cases r with
    | @cons _ _ yv _ r0 rn =>
      cases rn
      cases y with
      | ref n => exact hp.elim
      | pv w =>
        refine ⟨Nat.le_trans (show 1 ≤ 1 from Nat.le_refl 1) (by decide), fun a ha => ⟨a, yv, rfl, T, upd_same, fun dx hdx hne => ⟨rfl, dx, [(f, yv)], upd_same, by rw [upd_ne hne, upd_same], ?_, ?_⟩⟩⟩
        · rw [upd_ne hne] at hdx; exact hdx
        · rw [upd_ne hne] at hdx
          have eH : upd (del (upd (upd (upd H1 a (exo a C none)) dx (exd dx [(f, yv)])) a (exo a C (some dx))) a) dx (.xd [(f, yv)]) = upd H1 dx (.xd [(f, yv)]) := by
            funext b
            by_cases hb1 : b = dx
            · subst hb1; rw [upd_same, upd_same]
            · rw [upd_ne hb1, upd_ne hb1]
              by_cases hb2 : b = a
              · subst hb2; rw [del_same, ha]
              · rw [del_ne hb2, upd_ne hb2, upd_ne hb1, upd_ne hb2]
          rw [eH]
          obtain ⟨s2, e2⟩ := s1.alloc (o := .xd [(f, yv)]) hdx
          exact hp σ _ _ _ _ μ1 (e1.trans e2) s2 ((hη.mono e1).mono e2) ⟨hk, dx, [(f, yv)], yv, rfl, upd_same, by simp [List.lookup], Rp.mono e2.h r0⟩
/-- the __init__: L.__init__(self, m); self.f = p -/
theorem init_ok {P : Program} {w : World} {K : PySem.W.Frag} {mg : Str → Option Value} {base : Heap} {fI L C : Addr} {fd : FuncData} {nm qual x self p f m : Str} {params : Arguments} {scope : Scope} {N : List Str} {dvs : List V} {kws : List (Str × V)} {j : Nat} {p1 p2 p3 p4 p5 p6 p7 p8 p9 p10 : Pos}
    (F : FunD K nm qual params [.Expr (.Call (.Attribute (.Name x p1) "__init__" p2) [.Name self p3, .Constant (.str m) j p4] [] p5) p6, .Assign [.Attribute (.Name self p7) f p8] (.Name p p9) p10] scope dvs kws fI fd) (S : FnScope N [self, p] scope)
    (hgl : scope.names.lookup x = some .globalImplicit) (hm : mg x = some (.ref L)) (T0 : LinC K L) (hdb : (x == ("__debug__" : Str)) = false) (hno : PySem.W.findIn K (.ref C) f = some none)
    (ha1 : okN self = true) (ha2 : okN p = true) (hend : p2.endLine = p5.line) : FnOk P w K mg base (L2.CX P w) 1 fI fd [self, p] (spInit K C f) := by
  refine F.ok (k := 0) S (fun vs H Q E ⟨a, y, e, _⟩ => by rw [e]; rfl) fun cdv A outer s H vs Q E hr ⟨a, y, ev, T, ea, hq⟩ => ?_
  have hN0 : N[0]? = some self := by
    have := congrArg (fun l : List Str => l[0]?) S.pre
    simpa [List.getElem?_take] using this
  have hN1 : N[1]? = some p := by
    have := congrArg (fun l : List Str => l[1]?) S.pre
    simpa [List.getElem?_take] using this
  have vis : ∀ z ∈ [self, p], Vis scope z := fun z hz => by
    rcases S.par z hz with q | q
    · exact .inl q
    · exact .inr (.inl q)
  let X := cxOf (L2.CX P w) P w K mg base N qual scope fI cdv A outer s H E
  have v0 : ∀ p3, PE X (.Name self p3) (tVar 0) := fun p3 => pe_var (X := X) hN0 (vis self (by simp)) (okN_of ha1).1 (okN_of ha1).2
  have v1 : ∀ p3, PE X (.Name p p3) (tVar 1) := fun p3 => pe_var (X := X) hN1 (vis p (by simp)) (okN_of ha2).1 (okN_of ha2).2
  have gl : Gl X x := hgl
  refine ⟨_, pss_cons (ps_expr (pe_lineinit (X := X) gl hm T0 (pa_cons (v0 p3) (pa_cons pe_str pa_nil)) hdb (call_attr_eq rfl rfl (by rw [hend]; exact beq_self_eq_true _)))) (pss_one (ps_ost (f := f) (v0 p7) (v1 p9))), ?_⟩
  subst ev
  exact ⟨.ref a, rfl, a, C, [.str m], rfl, Nat.le_trans (Nat.le_refl 1) (by decide), T, ea, y, rfl, .ref a, rfl, a, C, rfl, T, hno, .inl ⟨ea, fun dx h1 h2 => hq dx h1 h2⟩⟩
end J
end

section
set_option maxRecDepth 100000
set_option maxHeartbeats 2000000
/-! J9: statements checked; defs. -/
namespace J
open PySem PySem.Spec PyProof.Rows L2
variable [LamT]

def isNam : Expr → Bool
  | .Name _ _ => true
  | _ => false
def isTupE : Expr → Bool
  | .Tuple _ _ _ => true
  | _ => false
/-- which names are stored from the right -/
def swapP (sc : Scope) (ts vs : List Expr) : Option (Option (List Str)) :=
  if !(ts.length == 2 || ts.length == 3) || vs.length != ts.length then some none else
  if (vs.any fun | .Starred .. => true | _ => false) then some none else
  let line := (ts.head?.map (·.pos.line)).getD 0
  let names := ts.filterMap fun
    | .Name id pos => if sc.names.lookup id == some .local && pos.line == line then some id else none
    | _ => none
  if names.length != ts.length || names.eraseDups.length != names.length then some none else
  if vs.all (foldedForSure 8) then some none else
  if vs.all (constantsAlone 8) then none else some (some names)
theorem swapP_of {sc : Scope} {env : Env} {ts vs : List Expr} {k k2 : Nat} {p p2 : Pos} {r : Option (List Str)} (hs : env.scope = sc) (hk : sc.kind = .function) (h : swapP sc ts vs = some r) : swappedStores [.Tuple ts k p] (.Tuple vs k2 p2) env = pure r := by
  subst hs
  have hb : env.blockKind = .function := by unfold Env.blockKind; rw [hk]; rfl
  unfold swapP at h
  unfold swappedStores
  simp only [hb]
  have e0 : (ScopeKind.function != ScopeKind.function) = false := by decide
  rw [e0, Bool.or_false]
  split at h
  · rename_i c; cases h; simp only [c, if_true]
  · rename_i c
    rw [if_neg c]
    split at h
    · rename_i c2; cases h; exact if_pos c2
    · rename_i c2
      refine (if_neg c2).trans ?_
      simp only at h
      split at h
      · rename_i c3; cases h; exact if_pos c3
      · rename_i c3
        refine (if_neg c3).trans ?_
        split at h
        · rename_i c4; cases h; exact if_pos c4
        · rename_i c4
          refine (if_neg c4).trans ?_
          split at h
          · cases h
          · rename_i c5
            cases h
            exact if_neg c5
theorem nswapS {te e : Expr} {l : Nat} {env : Env} (h : ncomp e = true) : swapsWithSole [te] e l env = pure false := by
  unfold swapsWithSole
  exact nswap h
theorem nswapped {te e : Expr} {env : Env} (h : isTupE e = false) : swappedStores [te] e env = pure none := by
  unfold swappedStores
  cases e with
  | Tuple _ _ _ => cases h
  | _ => cases te <;> rfl
theorem swap_of {sc : Scope} {env : Env} {x : Str} {p lp : Pos} {scope : Scope} {elt : Expr} {gs : List Comprehension} {l : Nat} (hs : env.scope = sc) (hk : sc.kind = .function) (h : swapB sc x p lp scope = true) :
    (sc.names.lookup x = some .local ∧ swapsWith (.ListComp elt gs scope lp) (some (.Name x p)) l env = pure true) ∨ swapsWith (.ListComp elt gs scope lp) (some (.Name x p)) l env = pure false := by
  subst hs
  unfold swapB at h
  split at h
  · rename_i hy
    simp only [Bool.and_eq_true, Bool.not_eq_true'] at h
    exact .inl ⟨hy, sw_true hk hy h.1 h.2⟩
  · rename_i hy
    right
    have ky : (env.kindOf x == some .local) = false := by
      show (env.scope.names.lookup x == some NameKind.local) = false
      exact beq_eq_false_iff_ne.mpr hy
    unfold swapsWith
    simp only [ky, Bool.and_false, Bool.false_and]
def isCompI : IE → Bool
  | .comp _ _ _ _ _ => true
  | .comp2 _ _ _ _ _ _ => true
  | _ => false
section
variable (ci : CI) (N : List Str)
def parB (sc : Scope) : List Nat → List Expr → List Str → Bool
  | [i, j], [.Name x _, .Name y _], nms => decide (nms = [x, y]) && decide (N[i]? = some x) && decide (N[j]? = some y) && decide (i ≠ j) && decide (sc.names.lookup x = some .local) && decide (sc.names.lookup y = some .local)
  | [i, j, k], [.Name x _, .Name y _, .Name z _], nms => decide (nms = [x, y, z]) && decide (N[i]? = some x) && decide (N[j]? = some y) && decide (N[k]? = some z) && decide (i ≠ j) && decide (i ≠ k) && decide (j ≠ k)
    && decide (sc.names.lookup x = some .local) && decide (sc.names.lookup y = some .local) && decide (sc.names.lookup z = some .local)
  | _, _, _ => false
mutual
def chkS : IS → Scope → FB → Stmt → Bool
  | .set i e, sc, fb, s => (match s with
    | .Assign [.Name x p] (.ListComp a gs scope lp) pos => isCompI e && decide (N[i]? = some x) && locB fb sc x && chkE ci N e sc fb (.ListComp a gs scope lp) && swapB sc x p lp scope
    | .Assign [.Name x p] v pos => decide (N[i]? = some x) && locB fb sc x && chkE ci N e sc fb v && ncomp v
    | _ => false)
  | .setT tg e, sc, fb, s => (match s with
    | .Assign [.Tuple ts k p] (.Tuple vs k2 p2) pos => decide (swapP sc ts vs = some none) && chkTg N fb sc tg (.Tuple ts k p) && chkE ci N e sc fb (.Tuple vs k2 p2)
    | .Assign [.Tuple ts k p] v pos => !isTupE v && ncomp v && chkTg N fb sc tg (.Tuple ts k p) && chkE ci N e sc fb v
    | _ => false)
  | .par is es, sc, fb, s => (match s with
    | .Assign [.Tuple ts k p] (.Tuple vs k2 p2) pos => (match swapP sc ts vs with
      | some (some nms) => parB N sc is ts nms && chkEs ci N es sc fb vs
      | _ => false)
    | _ => false)
  | .aug i e, sc, fb, s => (match s with | .AugAssign (.Name x p) .Add v pos => decide (N[i]? = some x) && locB fb sc x && chkE ci N e sc fb v | _ => false)
  | .sto a i e, sc, fb, s => (match s with | .Assign [.Subscript o ix p] v pos => nsl ix && ncomp v && chkE ci N a sc fb o && chkE ci N i sc fb ix && chkE ci N e sc fb v | _ => false)
  | .app a e, sc, fb, s => (match s with | .Expr (.Call (.Attribute o m ap) [v] [] cp) pos => decide (m = "append") && isNam o && nst v && (ap.endLine == cp.line) && chkE ci N a sc fb o && chkE ci N e sc fb v | _ => false)
  | .ins a i e, sc, fb, s => (match s with | .Expr (.Call (.Attribute o m ap) [u, v] [] cp) pos => decide (m = "insert") && isNam o && nst u && nst v && (ap.endLine == cp.line) && chkE ci N a sc fb o && chkE ci N i sc fb u && chkE ci N e sc fb v | _ => false)
  | .never, _, _, _ => true
  | .drop e, sc, fb, s => (match s with | .Expr v pos => ncomp v && chkE ci N e sc fb v | _ => false)
  | .ret e, sc, fb, s => (match s with | .Return (some v) pos => chkE ci N e sc fb v | _ => false)
  | .retN, sc, fb, s => (match s with | .Return none pos => true | _ => false)
  | .ife c a b, sc, fb, s => (match s with | .If x y z pos => chkT ci N c sc fb x && chkSs a sc fb y && chkSs b sc fb z | _ => false)
  | .for_ tg it body, sc, fb, s => (match s with | .For t i b [] pos => nset i && chkTg N fb sc tg t && chkI ci N it sc fb t i && chkSs body sc fb b | _ => false)
  | .while_ c body, sc, fb, s => (match s with | .While x b [] pos => chkT ci N c sc fb x && chkSs body sc fb b | _ => false)
  | .raise k m, sc, fb, s => (match s with | .Raise (some (.Call (.Name x _) [.Constant (.str m') _ _] [] _)) none pos => decide (ci.ex[k]? = some (some x)) && glB sc x && okN x | _ => false)
  | .raisx k f e, sc, fb, s => (match s with | .Raise (some (.Call (.Name x _) [v] [] _)) none pos => decide (ci.ox[k]? = some (some (x, f))) && glB sc x && okN x && nst v && chkE ci N e sc fb v | _ => false)
  | .brk, sc, fb, s => (match s with | .Break _ => true | _ => false)
  | .cnt, sc, fb, s => (match s with | .Continue _ => true | _ => false)
  | .pass, sc, fb, s => (match s with | .Pass _ => true | _ => false)
def chkSs : ISs → Scope → FB → List Stmt → Bool
  | .nil, sc, fb, ss => (match ss with | [] => true | _ => false)
  | .cons a as, sc, fb, ss => (match ss with | x :: xs => chkS a sc fb x && chkSs as sc fb xs | _ => false)
end
end
structure GoodS (X : Cx) (xc : XC) (W : WX) (ci : CI) (g : Glb) (cs : Calls) (N : List Str) (sc : Scope) (fb : FB) : Prop extends GoodJ X xc W ci g cs N sc fb where
  hfn : X.fn = fb
  kind : sc.kind = .function
  passes : PassesOwn (model X.prog X.w) X.A X.env X.xe
section
variable {xc : XC} {ci : CI} {g : Glb} {cs : Calls} {N : List Str} {X : Cx} {W : WX} {sc : Scope} {fb : FB}
theorem compP_of (G : GoodJ X xc W ci g cs N sc fb) {elt : IE} {tg : Tg} {it : II} {cond : IO} {own : List Nat} {x : Expr} {gs : List Comprehension} {scope : Scope} {pos : Pos} (h : chkE ci N (.comp elt tg it cond own) sc fb (.ListComp x gs scope pos) = true) :
    ∃ t i ifs, gs = [⟨t, i, ifs, 0⟩] ∧ CompP X xc W ci g cs N scope elt tg it cond own x t i ifs := by
  simp only [chkE] at h
  split at h
  · rename_i x t i ifs scope pos he
    cases he
    simp only [Bool.and_eq_true, List.all_eq_true, decide_eq_true_eq] at h
    obtain ⟨⟨⟨⟨⟨⟨h1, h2⟩, h3⟩, h4⟩, h5⟩, h6⟩, h7⟩ := h
    obtain ⟨b1, b2⟩ := blkOk_of h1
    exact ⟨t, i, ifs, rfl, b2, by rw [G.hN, G.hsc]; exact b1, fun j hj => by rw [b2]; exact h3 j hj, noset_of h2, chkI_ok it G _ _ h5, fun s H C cl fp => pg_tgJ G.calm G.hN G.nd (G.blk scope s H C cl fp).hsc rfl h4,
      fun s H C cl fp => chkC_ok cond (G.blk scope s H C cl fp) _ h6, fun s H C cl fp => chkE_ok elt (G.blk scope s H C cl fp) _ h7⟩
  · cases h
theorem comp2P_of (G : GoodJ X xc W ci g cs N sc fb) {elt : IE} {tg tg1 : Tg} {it it1 : II} {own : List Nat} {x : Expr} {gs : List Comprehension} {scope : Scope} {pos : Pos} (h : chkE ci N (.comp2 elt tg it tg1 it1 own) sc fb (.ListComp x gs scope pos) = true) :
    ∃ t i t1 i1, gs = [⟨t, i, [], 0⟩, ⟨t1, i1, [], 0⟩] ∧ Comp2P X xc W ci g cs N scope elt tg it tg1 it1 own x t i t1 i1 := by
  simp only [chkE] at h
  split at h
  · rename_i x t i t1 i1 scope pos he
    cases he
    simp only [Bool.and_eq_true, List.all_eq_true, decide_eq_true_eq] at h
    obtain ⟨⟨⟨⟨⟨⟨⟨⟨⟨h1, h2⟩, h3⟩, h4⟩, h5⟩, h6⟩, h7⟩, h8⟩, h9⟩, h10⟩ := h
    obtain ⟨b1, b2⟩ := blkOk_of h1
    exact ⟨t, i, t1, i1, rfl, b2, by rw [G.hN, G.hsc]; exact b1, fun j hj => by rw [b2]; exact h4 j hj, fun j hj => by rw [b2]; exact h5 j hj, noset_of h2, fun env => noset_of h3, chkI_ok it G _ _ h8, fun s H C cl fp => pg_tgJ G.calm G.hN G.nd (G.blk scope s H C cl fp).hsc rfl h6,
      fun s H C cl fp => chkI_ok it1 (G.blk scope s H C cl fp) _ _ h9, fun s H C cl fp => pg_tgJ G.calm G.hN G.nd (G.blk scope s H C cl fp).hsc rfl h7, fun s H C cl fp => chkE_ok elt (G.blk scope s H C cl fp) _ h10⟩
  · cases h
theorem set_ok (G : GoodS X xc W ci g cs N sc fb) {i : Nat} {e : IE} {x : Str} {p lp pos : Pos} {a : Expr} {gs : List Comprehension} {scope : Scope} (h0 : isCompI e = true) (h1 : N[i]? = some x) (h2 : locB fb sc x = true) (h3 : chkE ci N e sc fb (.ListComp a gs scope lp) = true) (h4 : swapB sc x p lp scope = true) :
    PS X (.Assign [.Name x p] (.ListComp a gs scope lp) pos) (RSt X xc W (setS i (ev cs g e))) := by
  obtain ⟨l1, l2⟩ := loc_of G.hsc G.hfn h2
  rcases swap_of (elt := a) (gs := gs) (l := pos.line) G.hsc G.kind h4 with ⟨hl, hs⟩ | hs
  · cases e with
    | comp elt tg it cond own =>
      obtain ⟨t, i2, ifs, rfl, C⟩ := compP_of G.toGoodJ h3
      have q := ps_setLcJ (W := W) G.calm (by rw [G.hN]; exact G.nd) (by rw [G.hN]; exact h1) (by rw [G.hsc]; exact hl) hs C.hi C.ok C.hg C.ht C.he C.st C.tgs
      rw [C.ix] at q
      exact q
    | comp2 elt tg it tg1 it1 own =>
      obtain ⟨t, i2, t1, i1, rfl, C⟩ := comp2P_of G.toGoodJ h3
      refine PSimp (ps_setLc2 G.calm (by rw [G.hN]; exact G.nd) (by rw [G.hN]; exact h1) (by rw [G.hsc]; exact hl) hs C.hi C.ok C.tgs1 C.hg (fun s H D cl fp => pts_blk (xc := xc) s H scope D cl fp) C.hi1 C.hg1 (fun s H D cl fp => pts_blk (xc := xc) s H scope D cl fp) C.he C.st C.st1) fun D σ H ⟨η, st, Hi, μ, φ, he, hst, hp⟩ => ?_
      rw [C.ix]
      refine tLc2_of (fun j hj => by rw [← C.ix]; exact C.tgs j hj) (rG_of he hst ((PostS.thn he hp).mono fun x H1 ⟨v, st1, Hi1, μ1, e1, s1, rv, hp1⟩ => ?_))
      exact hp1.nxt s1 ((he.mono e1).set rv i)
    | _ => cases h0
  · exact ps_setJ (by rw [G.hN]; exact G.nd) (by rw [G.hN]; exact h1) l1 l2 (chkE_ok e G.toGoodJ _ h3) hs
theorem raises_K {K : PySem.W.Frag} {C : Addr} (hK : X.K = K) (h1 : PySem.W.subIn K (.ref C) (.type "BaseException") = some true) (h2 : PySem.W.typeIn K (.ref C) = some (.type "type")) : Raises X (.ref C) := by
  subst hK; exact raises_own h1 h2
theorem par_ok (G : GoodS X xc W ci g cs N sc fb) {is : List Nat} {es : IEs} {ts vs : List Expr} {nms : List Str} {k k2 : Nat} {p p2 pos : Pos} (h0 : swapP sc ts vs = some (some nms)) (h1 : parB N sc is ts nms = true) (h2 : chkEs ci N es sc fb vs = true) :
    PS X (.Assign [.Tuple ts k p] (.Tuple vs k2 p2) pos) (RSt X xc W (parS is (evs cs g es))) := by
  have hw := swapP_of (k := k) (k2 := k2) (p := p) (p2 := p2) G.hsc G.kind h0
  have ha := (chkEs_ok es G.toGoodJ _ h2).1
  have hl : vs.length = ts.length := by
    unfold swapP at h0
    split at h0
    · cases h0
    · rename_i c
      simp only [Bool.or_eq_true, bne_iff_ne, ne_eq, not_or, Decidable.not_not] at c
      exact c.2
  unfold parB at h1
  split at h1
  · simp only [Bool.and_eq_true, decide_eq_true_eq] at h1
    obtain ⟨⟨⟨⟨⟨rfl, a1⟩, a2⟩, a3⟩, a4⟩, a5⟩ := h1
    match vs, hl with
    | [a, b], _ => exact ps_par2J G.calm (by rw [G.hN]; exact G.nd) (by rw [G.hN]; exact a1) (by rw [G.hN]; exact a2) a3 (by rw [G.hsc]; exact a4) (by rw [G.hsc]; exact a5) ha hw
  · simp only [Bool.and_eq_true, decide_eq_true_eq] at h1
    obtain ⟨⟨⟨⟨⟨⟨⟨⟨⟨rfl, a1⟩, a2⟩, a3⟩, a4⟩, a5⟩, a6⟩, a7⟩, a8⟩, a9⟩ := h1
    match vs, hl with
    | [a, b, c], _ => exact ps_par3J G.calm (by rw [G.hN]; exact G.nd) (by rw [G.hN]; exact a1) (by rw [G.hN]; exact a2) (by rw [G.hN]; exact a3) a4 a5 a6 (by rw [G.hsc]; exact a7) (by rw [G.hsc]; exact a8) (by rw [G.hsc]; exact a9) ha hw
  · cases h1
mutual
theorem chkS_ok (G : GoodS X xc W ci g cs N sc fb) : ∀ (s : IS) (e : Stmt), chkS ci N s sc fb e = true → PS X e (RSt X xc W (evS cs g s))
  | .set i e, s, h => by
    simp only [chkS] at h
    split at h
    · simp only [Bool.and_eq_true, decide_eq_true_eq] at h
      obtain ⟨⟨⟨⟨h0, h1⟩, h2⟩, h3⟩, h4⟩ := h
      exact set_ok G h0 h1 h2 h3 h4
    · simp only [Bool.and_eq_true, decide_eq_true_eq] at h
      obtain ⟨⟨⟨h1, h2⟩, h3⟩, h4⟩ := h
      obtain ⟨l1, l2⟩ := loc_of G.hsc G.hfn h2
      exact ps_setJ (by rw [G.hN]; exact G.nd) (by rw [G.hN]; exact h1) l1 l2 (chkE_ok e G.toGoodJ _ h3) (nswap h4)
    · cases h
  | .setT tg e, s, h => by
    simp only [chkS] at h
    split at h
    · simp only [Bool.and_eq_true, decide_eq_true_eq] at h
      obtain ⟨⟨h1, h2⟩, h3⟩ := h
      exact ps_setTJ (pg_tgJ G.calm G.hN G.nd G.hsc G.hfn h2) (chkE_ok e G.toGoodJ _ h3) (nswapS rfl) (swapP_of G.hsc G.kind h1) rfl
    · simp only [Bool.and_eq_true, Bool.not_eq_true'] at h
      obtain ⟨⟨⟨h1, h2⟩, h3⟩, h4⟩ := h
      exact ps_setTJ (pg_tgJ G.calm G.hN G.nd G.hsc G.hfn h3) (chkE_ok e G.toGoodJ _ h4) (nswapS h2) (nswapped h1) rfl
    · cases h
  | .par is es, s, h => by
    simp only [chkS] at h
    split at h
    · split at h
      · rename_i q
        simp only [Bool.and_eq_true] at h
        exact par_ok G q h.1 h.2
      · cases h
    · cases h
  | .aug i e, s, h => by
    simp only [chkS] at h
    split at h
    · simp only [Bool.and_eq_true, decide_eq_true_eq] at h
      obtain ⟨⟨h1, h2⟩, h3⟩ := h
      obtain ⟨l1, l2⟩ := loc_of G.hsc G.hfn h2
      exact ps_augJ (by rw [G.hN]; exact G.nd) (by rw [G.hN]; exact h1) l1 l2 (chkE_ok e G.toGoodJ _ h3)
    · cases h
  | .sto a i e, s, h => by
    simp only [chkS] at h
    split at h
    · simp only [Bool.and_eq_true] at h
      obtain ⟨⟨⟨⟨h1, h2⟩, h3⟩, h4⟩, h5⟩ := h
      exact ps_stoJ (chkE_ok a G.toGoodJ _ h3) (chkE_ok i G.toGoodJ _ h4) (chkE_ok e G.toGoodJ _ h5) h1 (nswapS h2)
    · cases h
  | .app a e, s, h => by
    simp only [chkS] at h
    split at h
    · simp only [Bool.and_eq_true, decide_eq_true_eq] at h
      obtain ⟨⟨⟨⟨⟨rfl, h1⟩, h2⟩, h3⟩, h4⟩, h5⟩ := h
      rename_i o ap v cp pos
      exact ps_appJ (chkE_ok a G.toGoodJ _ h4) (chkE_ok e G.toGoodJ _ h5) h2 (by cases o <;> first | rfl | cases h1) h3
    · cases h
  | .ins a i e, s, h => by
    simp only [chkS] at h
    split at h
    · simp only [Bool.and_eq_true, decide_eq_true_eq] at h
      obtain ⟨⟨⟨⟨⟨⟨⟨rfl, h1⟩, h2⟩, h3⟩, h4⟩, h5⟩, h6⟩, h7⟩ := h
      rename_i o ap u v cp pos
      exact ps_insJ (chkE_ok a G.toGoodJ _ h5) (chkE_ok i G.toGoodJ _ h6) (chkE_ok e G.toGoodJ _ h7) h2 h3 (by cases o <;> first | rfl | cases h1) h4
    · cases h
  | .never, s, h => ⟨fun _ _ _ _ _ _ ⟨_, _, _, _, _, _, _, hp⟩ => hp.elim⟩
  | .drop e, s, h => by
    simp only [chkS] at h
    split at h
    · simp only [Bool.and_eq_true] at h
      exact ps_dropJ (chkE_ok e G.toGoodJ _ h.2) (nswap h.1)
    · cases h
  | .ret e, s, h => by
    simp only [chkS] at h
    split at h
    · exact ps_retJ (chkE_ok e G.toGoodJ _ h)
    · cases h
  | .retN, s, h => by
    simp only [chkS] at h
    split at h
    · exact ps_retNJ
    · cases h
  | .ife c a b, s, h => by
    simp only [chkS] at h
    split at h
    · simp only [Bool.and_eq_true] at h
      exact ps_iteJ (chkT_ok c G.toGoodJ _ h.1.1) (chkSs_ok G a _ h.1.2) (chkSs_ok G b _ h.2)
    · cases h
  | .for_ tg it body, s, h => by
    simp only [chkS] at h
    split at h
    · simp only [Bool.and_eq_true] at h
      obtain ⟨⟨⟨h1, h2⟩, h3⟩, h4⟩ := h
      exact ps_forJ G.passes G.calm (chkI_ok it G.toGoodJ _ _ h3) (pg_tgJ G.calm G.hN G.nd G.hsc G.hfn h2) (chkSs_ok G body _ h4) (noset_of h1)
    · cases h
  | .while_ c body, s, h => by
    simp only [chkS] at h
    split at h
    · simp only [Bool.and_eq_true] at h
      exact ps_whlJ 100000 G.passes (chkT_ok c G.toGoodJ _ h.1) (chkSs_ok G body _ h.2)
    · cases h
  | .raise k m, s, h => by
    simp only [chkS] at h
    split at h
    · simp only [Bool.and_eq_true, decide_eq_true_eq] at h
      obtain ⟨⟨h1, h2⟩, h3⟩ := h
      obtain ⟨C, bmB, B, newId, initId, b1, b2, b3, b4, b5, b6, b7⟩ := G.tab.excs k _ h1
      refine PSimp (L2.ps_raise G.calm G.tk (pmk_own b3 b4 b2 b5 (raises_own b6 b7) (gl_of G.hsc h2) (okN_of h3).1)) fun D σ H ⟨η, st, Hi, μ, φ, he, hst, hp⟩ => ?_
      unfold evS raiseS conF at hp
      cases q : constV (.str m) with
      | none => rw [q] at hp; exact hp.elim
      | some v =>
        rw [q] at hp
        cases v with
        | str z => exact hp σ _ _ H Hi μ (Ext.refl _ _) hst he ⟨b1, rfl⟩
        | _ => exact hp.elim
    · cases h
  | .raisx k f e, s, h => by
    simp only [chkS] at h
    split at h
    · simp only [Bool.and_eq_true, decide_eq_true_eq] at h
      obtain ⟨⟨⟨⟨h1, h2⟩, h3⟩, h4⟩, h5⟩ := h
      obtain ⟨C, fI, fd, ps, b1, b2, b3, b4, b5, b6, b7⟩ := G.tab.oexs k _ f h1
      obtain ⟨kr, hr, _⟩ := G.tab.calls
      exact ps_raisxJ (k := k) G.calm G.tk b1 b2 b3 b4 b5 b6 b7 (hr.mono (by omega)) (gl_of G.hsc h2) (okN_of h3).1 (chkE_ok e G.toGoodJ _ h5) h4
    · cases h
  | .brk, s, h => by
    simp only [chkS] at h
    split at h
    · exact ps_brkJ
    · cases h
  | .cnt, s, h => by
    simp only [chkS] at h
    split at h
    · exact ps_cntJ
    · cases h
  | .pass, s, h => by
    simp only [chkS] at h
    split at h
    · exact ps_passJ
    · cases h
theorem chkSs_ok (G : GoodS X xc W ci g cs N sc fb) : ∀ (s : ISs) (e : List Stmt), chkSs ci N s sc fb e = true → PSs X e (RSt X xc W (evSs cs g s))
  | .nil, s, h => by
    simp only [chkSs] at h
    split at h
    · exact pss_nilJ
    · cases h
  | .cons a as, s, h => by
    simp only [chkSs] at h
    split at h
    · simp only [Bool.and_eq_true] at h
      exact pss_consJ (chkS_ok G a _ h.1) (chkSs_ok G as _ h.2)
    · cases h
end
end
end J
end

section
set_option maxRecDepth 100000
set_option maxHeartbeats 2000000
/-! J10: defs, calls, the law. -/
namespace J
open PySem PySem.Spec PyProof.Rows L2
variable [LamT]

/-- a def as it stands at the top, with its small text -/
structure DefOk (K : PySem.W.Frag) (mg : Str → Option Value) (ci : CI) (x : Str) (d : DefJ) (f : Addr) (fd : FuncData) (ps : List Str) : Prop where
  ex : ∃ qual st N, Fun K x qual st f fd ∧ FnScope N ps (defScope st) ∧ chkSs ci N d.body (defScope st) (fun _ => true) (defBody st) = true ∧ d.N = N.length ∧
    (N ∈ ci.lm → ∃ c P, fd.code = .ref c ∧ (c, P, qual ++ ".<locals>." ++ "<lambda>") ∈ LamT.L)
  np : d.ps = ps.length
  at_ : mg x = some (.ref f)
  bi : L2.Binds K fd ps []
theorem take_pre {α : Type} {μ μ' : List α} {n : Nat} (h : ∃ t, μ' = μ ++ t) (hn : μ.length = n) : μ'.take n = μ := by
  obtain ⟨t, rfl⟩ := h
  subst hn
  simp
theorem take_pre1 {α : Type} {μ μ' : List α} {n : Nat} (h : ∃ t, μ' = μ ++ t) (hn : μ.length = n) : ∃ t, μ'.take (n + 1) = μ ++ t := by
  obtain ⟨t, rfl⟩ := h
  subst hn
  exact ⟨t.take 1, by rw [List.take_append, List.take_of_length_le (Nat.le_succ _)]; simp⟩
section
variable {P : Program} {w : World} {K : PySem.W.Frag} {mg : Str → Option Value} {base : Heap} {xc : XC} {ci : CI} {g : Glb}
theorem envR_start {Hi : Hp} {μ : List Addr} {N : List Str} : ∀ {xs : List SV} {vs : List V}, RpSs K Hi μ xs vs → EnvR K Hi μ (startJ N.length xs) (L2.start N vs) := by
  intro xs vs r
  have hl := r.length
  refine ⟨by simp [startJ, L2.start, hl], fun i a q => ?_⟩
  unfold startJ at q
  by_cases hi : i < xs.length
  · rw [List.getElem?_append_left (by simpa using hi), List.getElem?_map] at q
    cases hx : xs[i]? with
    | none => rw [hx] at q; cases q
    | some b =>
      rw [hx] at q; cases q
      have : ∀ {xs : List SV} {vs : List V} (i : Nat), RpSs K Hi μ xs vs → xs[i]? = some a → ∃ v, vs[i]? = some v ∧ RpS K Hi μ a v := by
        intro xs vs i r
        induction r generalizing i with
        | nil => intro h; simp at h
        | cons r t ih =>
          intro h
          cases i with
          | zero => simp at h; subst h; exact ⟨_, rfl, r⟩
          | succ i =>
            obtain ⟨v, h1, h2⟩ := ih i (by simpa using h)
            exact ⟨v, by simpa using h1, h2⟩
      obtain ⟨v, h1, h2⟩ := this i r hx
      refine ⟨v, ?_, h2⟩
      unfold L2.start
      rw [List.getElem?_append_left (by simp; omega), List.getElem?_map, h1]; rfl
  · rw [List.getElem?_append_right (by simpa using Nat.le_of_not_lt hi)] at q
    have := List.mem_of_getElem? q
    simp at this
theorem runDef_post {m : Nat} {d : DefJ} {xs : List SV} {vs : List V} {st : Store} {H Hi : Hp} {μ : List Addr} {φ : List (Addr × HO)} {N : List Str} {cs : Calls} {Q : VK} {E : XK} (hN : d.N = N.length) (hs : Sto K st H Hi μ φ) (r : RpSs K Hi μ xs vs)
    (hp : Post K xc (fun c d H => E c d H) (RpS K) Hi μ φ (runDef cs g d xs st) Q) :
    rS K xc (fun cls d _ H => E cls d H) (evSs cs g d.body) { nx := fun _ H' => Q .non H', rt := Q } (L2.start N vs) H := by
  refine ⟨startJ d.N xs, st, Hi, μ, φ, by rw [hN]; exact envR_start r, hs, ?_⟩
  unfold runDef at hp
  have hl := hs.len
  cases q : evSs cs g d.body (startJ d.N xs) st with
  | next η st' =>
    rw [q] at hp
    intro σ' H' Hi' μ' e s he
    have tk := take_pre e.m hl
    have s' := s.cut st.length
    rw [tk] at s'
    exact hp .non H' Hi' μ (Ext.of e.h) s' .non
  | ret v st' =>
    rw [q] at hp
    intro x H' Hi' μ' e s rv
    have tk := take_pre e.m hl
    cases v with
    | pv v =>
      have s' := s.cut st.length
      rw [tk] at s'
      exact hp x H' Hi' μ (Ext.of e.h) s' rv
    | ref n =>
      simp only [exitJ] at hp
      split at hp
      · rename_i hn
        have s' := s.cut st.length
        rw [tk] at s'
        refine hp x H' Hi' μ (Ext.of e.h) s' ?_
        obtain ⟨a, h1, h2⟩ := rv
        refine ⟨a, ?_, h2⟩
        rw [← tk, List.getElem?_take_of_lt hn]
        exact h1
      · split at hp
        · rename_i hn
          subst hn
          refine hp x H' Hi' _ ⟨e.h, take_pre1 e.m hl⟩ (s.cut _) ?_
          obtain ⟨a, h1, h2⟩ := rv
          refine ⟨a, ?_, h2⟩
          rw [List.getElem?_take_of_lt (Nat.lt_succ_self _)]
          exact h1
        · exact hp.elim
  | exc x η st' =>
    rw [q] at hp
    intro σ' cls dd H' Hi' μ' e s he q
    have tk := take_pre e.m hl
    have s' := s.cut st.length
    rw [tk] at s'
    exact hp cls dd H' Hi' μ (Ext.of e.h) s' q
  | brk η st' => rw [q] at hp; exact hp.elim
  | cnt η st' => rw [q] at hp; exact hp.elim
  | bad => rw [q] at hp; exact hp.elim
/-- what the top has made, but for the defs -/
structure TopJ (w : World) (K : PySem.W.Frag) (mg : Str → Option Value) (xc : XC) (ci : CI) (g : Glb) (defs : List (Option DefJ)) : Prop where
  globs : ∀ (j : Nat) (x : Str), ci.gl[j]? = some (some x) → ∃ y u v, g.glob[j]? = some v ∧ mg x = some u ∧ RelV y u ∧ ∀ H, Rp K H v y
  dicts : ∀ (j : Nat) (x : Str), ci.di[j]? = some (some x) → ∃ a d, g.dict[j]? = some d ∧ mg x = some (.ref a) ∧ DicR K w a d
  blt : ∀ x, x ∈ ci.bl → mg x = none
  excs : ∀ (k : Nat) (x : Str), ci.ex[k]? = some (some x) → ∃ C bmB B newId initId, xc k = some (.ref C) ∧ mg x = some (.ref C) ∧ ExcBaseFacts B newId initId bmB ∧ PySem.W.excIn K C bmB newId = true ∧ PySem.W.keepIn K (.ref C) = true ∧ PySem.W.subIn K (.ref C) (.type "BaseException") = some true ∧ PySem.W.typeIn K (.ref C) = some (.type "type")
  words : ∀ (x : Str) (hs : List (Nat × HB)) (fine : Option Str), (x, hs, fine) ∈ ci.wl → ∃ l : List (Value × HB), WordOk K mg x fine l ∧ (∀ k c, xc k = some c → l.length = hs.length ∧ ∀ (i : Nat) (p : Nat × HB) (q : Value × HB), hs[i]? = some p → l[i]? = some q → q.2 = p.2 ∧ PySem.W.exmOne K c q.1 = some (p.1 == k || p.1 == ci.top)) ∧
    ∀ (k : Nat) (c : Value) (f : Str), xc k = some c → wordJ ci.top hs k = some (.fld f) → ∃ C : Addr, c = .ref C ∧ XfC K C ∧ PySem.W.findIn K (.ref C) f = some none
  oexs : ∀ (k : Nat) (x f : Str), ci.ox[k]? = some (some (x, f)) → ∃ (C fI : Addr) (fd : FuncData) (ps : List Str), xc k = some (.ref C) ∧ mg x = some (.ref C) ∧ OexC K C ∧ PySem.W.findIn K (.ref C) "__init__" = some (some (.ref fI)) ∧ PySem.W.typeIn K (.ref fI) = some (.type "function") ∧ L2.Binds K fd ps [] ∧
    ∀ (P : Program) (base : Heap), FnOk P w K mg base (L2.CX P w) 1 fI fd ps (spInit K C f)
  defs : ∀ (j : Nat) (x : Str), ci.fn[j]? = some (some x) → ∃ d f fd ps, defs[j]? = some (some d) ∧ DefOk K mg ci x d f fd ps ∧ ∀ m, ci.ar[j]? = some (some m) → ps.length = m
theorem callJ_len {defs : List (Option DefJ)} {d : DefJ} {j n : Nat} (h : defs[j]? = some (some d)) {xs : List SV} {st : Store} (hl : xs.length ≠ d.ps) : callJ defs g n j xs st = .bad := by
  cases n with
  | zero => rfl
  | succ n => unfold callJ; rw [h]; simp [hl]
/-- a def by its body, its code object told -/
theorem okXc {x qual : Str} {st : Stmt} {f : Addr} {fd : FuncData} {N ps : List Str} {k : Nat} {sp : Sp} (F : Fun K x qual st f fd) (S : FnScope N ps (defScope st)) (len : ∀ vs H Q E, sp vs H Q E → vs.length = ps.length)
    (hbody : ∀ (cdv : Value), fd.code = cdv → ∀ (A : Around) (outer : List Env) (s : Shared) (H : Hp) (vs : List V) (Q : VK) (E : XK), Room k (A.deeper (envOfC qual (defScope st) s.heap.objs.size f cdv)) → sp vs H Q E →
      ∃ t, PSs (cxOf (L2.CX P w) P w K mg base N qual (defScope st) f cdv A outer s H E) (defBody st) t ∧ t { nx := fun _ H' => Q .non H', rt := Q } (L2.start N vs) H) : FnOk P w K mg base (L2.CX P w) (k + 1) f fd ps sp := by
  obtain ⟨oc, od, kV, doc, pm, an, cdv, ct, osl, rfl, lk, hcd⟩ := F.ex
  exact fn_of lk hcd S len fun A outer s H vs Q E hr hsp => hbody cdv rfl A outer s H vs Q E hr hsp
theorem fn_okJ {defs : List (Option DefJ)} (T : TopJ w K mg xc ci g defs) (TB : ∀ p ∈ LamT.L, LamX.TabB base mg p.1 p.2.1) (U : ∀ p ∈ LamT.L, ∀ r ∈ LamT.L, r.2.1 = p.2.1 → r.2.2 = p.2.2) : ∀ (n : Nat) {j : Nat} {x : Str} {d : DefJ} {f : Addr} {fd : FuncData} {ps : List Str}, defs[j]? = some (some d) → DefOk K mg ci x d f fd ps →
    FnOk P w K mg base (L2.CX P w) (5 * n) f fd ps (spJ K xc ps.length (callJ defs g n j))
  | 0, j, x, d, f, fd, ps, hd, D => by
    have no : ∀ vs H Q E, ¬ spJ K xc ps.length (callJ defs g 0 j) vs H Q E := fun vs H Q E ⟨_, _, _, _, _, _, _, _, h⟩ => h
    exact ⟨fun vs H Q E h => absurd h (no vs H Q E), fun A outer s H args us vs Q E _ _ _ _ h => absurd h (no vs H Q E)⟩
  | n + 1, j, x, d, f, fd, ps, hd, D => by
    obtain ⟨qual, st, N, F, S, ck, hN, hlm⟩ := D.ex
    refine okXc (k := 5 * n + 4) F S (fun vs H Q E h => h.1) fun cdv hcdv A outer s H vs Q E hr h => ?_
    obtain ⟨hl, xs, st1, Hi, μ, φ, hs, r, hp⟩ := h
    have ca : CallsAt P w K mg base (5 * n) xc ci (callJ defs g n) := fun i y hy => by
      obtain ⟨d', f', fd', ps', e1, D', ar⟩ := T.defs i y hy
      have kp : PySem.W.keepIn K (.ref f') = true := by
        obtain ⟨_, _, _, F', _⟩ := D'.ex
        exact F'.kp
      exact ⟨f', fd', ps', D'.at_, kp, D'.bi, fn_okJ T TB U n e1 D', fun ys st hy => callJ_len e1 (by rw [D'.np]; exact hy), ar⟩
    have tab : TabJ P w K mg base (A.deeper (envOfC qual (defScope st) s.heap.objs.size f cdv)) xc ci g (callJ defs g n) :=
      ⟨⟨5 * n, hr.mono (by omega), ca⟩, T.globs, T.dicts, T.blt, T.excs, T.words, fun k x f h => by
        obtain ⟨C, fI, fd, ps, a1, a2, a3, a4, a5, a6, a7⟩ := T.oexs k x f h
        exact ⟨C, fI, fd, ps, a1, a2, a3, a4, a5, a6, a7 _ _⟩⟩
    have tk : Takes (cxOf (L2.CX P w) P w K mg base N qual (defScope st) f cdv A outer s H E) (fun cls d _ H => E cls d H) := takes_of rfl rfl rfl rfl
    have lam : N ∈ ci.lm → LamOk (cxOf (L2.CX P w) P w K mg base N qual (defScope st) f cdv A outer s H E) := fun h => by
      obtain ⟨c, P', q1, q2⟩ := hlm h
      refine ⟨c, P', by rw [← q1, hcdv]; rfl, TB _ q2, List.mem_map.mpr ⟨_, q2, rfl⟩, fun p hp e => ?_⟩
      obtain ⟨r, hr, rfl⟩ := List.mem_map.mp hp
      exact U _ q2 r hr e
    have G : GoodS (cxOf (L2.CX P w) P w K mg base N qual (defScope st) f cdv A outer s H E) xc (fun cls d _ H => E cls d H) ci g (callJ defs g n) N (defScope st) (fun _ => true) :=
      { tab := tab, hN := rfl, nd := S.nd, hsc := rfl, hfn := rfl, calm := rfl, units := hr.units, tk := tk, kind := S.kind, passes := passes_of rfl, lam := fun h _ => ⟨lam h, 5 * n, hr, ca⟩ }
    refine ⟨_, chkSs_ok G d.body _ ck, ?_⟩
    have hx : xs.length = d.ps := by rw [D.np, ← hl]; exact r.length
    unfold callJ at hp
    rw [hd] at hp
    simp only [hx, if_true] at hp
    exact runDef_post (m := n) hN hs r hp
end
theorem rps_ints {K : PySem.W.Frag} {H : Hp} : ∀ ns : List Int, Rps K H (ns.map PyData.int) (ns.map V.int)
  | [] => .nil
  | n :: ns => .cons (.int n) (rps_ints ns)
/-- what is read at the start: all but tables -/
def seenH (H : Hp) : Hp := fun b => match H b with
  | some (.tbl _) => none
  | o => o
theorem seenH_sub (H : Hp) : Same (seenH H) H := fun b u e => by
  unfold seenH at e
  split at e
  · cases e
  · exact e
theorem seenH_of {H : Hp} {b : Addr} {u : HO} (h : H b = some u) (n : ntO u = true) : seenH H b = some u := by
  unfold seenH
  rw [h]
  split
  · rename_i e; cases e; cases n
  · rfl
theorem sto_nil {K : PySem.W.Frag} {H : Hp} (t : LamX.Tabs LamT.T H) : Sto K [] H (seenH H) [] [] :=
  ⟨seenH_sub H, rfl, List.nodup_nil, fun n a c h => by simp at h, fun p hp => by simp at hp, List.nodup_nil, fun a ha => by simp at ha, t, fun b ps e => by
    unfold seenH at e
    split at e
    · cases e
    · rename_i q; exact q _ e, fun p hp => by simp at hp⟩
theorem seenH_seq {K : PySem.W.Frag} {H : Hp} {a : Addr} {xs : List V} (h : SqL K H a xs) : SqL K (seenH H) a xs := by
  rcases h with h | h
  · rcases h with h | ⟨o, h⟩
    · exact .inl (.inl (seenH_of h rfl))
    · exact .inl (.inr ⟨o, seenH_of h rfl⟩)
  · exact .inr h
/-- the law's answer -/
theorem spJ_law {K : PySem.W.Frag} {xc : XC} {F : List SV → Store → Res SV} {H : Hp} {a : Addr} {ns : List Int} {st : Store} (ht : LamX.Tabs LamT.T H) (hS : SqL K H a (ns.map V.int)) (hl : ns.length ≤ 63)
    (h : F [.pv (.list (ns.map PyData.int))] [] = .ok (.pv (.bool true)) st) : spJ K xc 1 F [.ref a] H (fun v _ => v = .bl true) fun _ _ _ => False := by
  refine ⟨rfl, [.pv (.list (ns.map PyData.int))], [], seenH H, [], [], sto_nil ht, .cons (show RpS K (seenH H) [] (.pv _) (.ref a) from .lst (seenH_seq hS) (rps_ints ns) ?_) .nil, ?_⟩
  · rw [List.length_map]; unfold sizeLine; omega
  · rw [h]
    intro x H' Hi' μ' e s r
    cases r
    rfl
end J
end

section
set_option maxRecDepth 100000
set_option maxHeartbeats 2000000
/-! J11: from the head's facts to the law. -/
namespace J
open PySem PySem.Spec PyProof.Rows L2
variable [LamT]

def all2 {α β : Type} (f : α → β → Bool) : List α → List β → Bool
  | [], [] => true
  | a :: as, b :: bs => f a b && all2 f as bs
  | _, _ => false
/-- a value of the module -/
def rpB (K : PySem.W.Frag) : Nat → PV → Value → Bool
  | 0, _, _ => false
  | n + 1, p, u => (match p, u with
    | .none, .none => true
    | .bool b, .bool c => b == c
    | .int i, .int j _ => decide (i = j)
    | .str x, .str y _ => decide (x = y) && (PyData.strOk x && decide (x.length ≤ line))
    | .tuple xs, .ref a => (match K.lookup a with
      | some ⟨.type c, _, .seq its _, _⟩ => decide (c = "tuple") && (decide (its.size ≤ line) && all2 (rpB K n) xs its.toList)
      | _ => false)
    | .list xs, .ref a => (match K.lookup a with
      | some ⟨.type c, none, .seq its _, _⟩ => decide (c = "list") && (decide (its.size ≤ line) && all2 (rpB K n) xs its.toList)
      | _ => false)
    | _, _ => false)
theorem all2_rp {K : PySem.W.Frag} {f : PV → Value → Bool} (hf : ∀ p u, f p u = true → ∃ y, RelV y u ∧ ∀ H, Rp K H p y) : ∀ {xs : List PV} {us : List Value}, all2 f xs us = true → ∃ ys, Vals ys us ∧ ∀ H, Rps K H xs ys
  | [], [], _ => ⟨[], .nil, fun H => .nil⟩
  | [], _ :: _, h => by cases h
  | _ :: _, [], h => by cases h
  | x :: xs, u :: us, h => by
    obtain ⟨h1, h2⟩ := He.ba (show (f x u && all2 f xs us) = true from h)
    obtain ⟨y, r, p⟩ := hf _ _ h1
    obtain ⟨ys, rs, ps⟩ := all2_rp hf h2
    exact ⟨y :: ys, .cons r rs, fun H => .cons (p H) (ps H)⟩
theorem rpB_ok {K : PySem.W.Frag} : ∀ (n : Nat) (p : PV) (u : Value), rpB K n p u = true → ∃ y, RelV y u ∧ ∀ H, Rp K H p y
  | 0, _, _, h => by cases h
  | n + 1, p, u, h => by
    have ih := rpB_ok (K := K) n
    unfold rpB at h
    split at h
    · exact ⟨.non, rfl, fun H => .non⟩
    · rename_i b c
      have e : b = c := beq_iff_eq.mp h
      subst e
      exact ⟨.bl b, rfl, fun H => .bl b⟩
    · rename_i i j t
      have e := of_decide_eq_true h
      subst e
      exact ⟨.int i, ⟨t, rfl⟩, fun H => .int i⟩
    · rename_i x y t
      obtain ⟨h1, h2⟩ := He.ba h
      obtain ⟨h3, h4⟩ := He.ba h2
      have e := of_decide_eq_true h1
      subst e
      exact ⟨.str x, ⟨t, rfl⟩, fun H => .str x h3 (Nat.le_trans (of_decide_eq_true h4) line_le)⟩
    · rename_i xs a
      split at h
      · rename_i c od its m sl q
        obtain ⟨h1, h2⟩ := He.ba h
        obtain ⟨h3, h4⟩ := He.ba h2
        obtain ⟨ys, rs, ps⟩ := all2_rp ih h4
        have hz := Nat.le_trans (of_decide_eq_true h3) line_le
        refine ⟨.ref a, rfl, fun H => .tup (.inr ⟨_, its, m, q, congrArg Value.type (of_decide_eq_true h1), rfl, hz, rs⟩) (ps H) ?_⟩
        rw [(ps H).length, rs.length, Array.length_toList]; exact hz
      · cases h
    · rename_i xs a
      split at h
      · rename_i c its m sl q
        obtain ⟨h1, h2⟩ := He.ba h
        obtain ⟨h3, h4⟩ := He.ba h2
        obtain ⟨ys, rs, ps⟩ := all2_rp ih h4
        have hz := Nat.le_trans (of_decide_eq_true h3) line_le
        refine ⟨.ref a, rfl, fun H => .lst (.inr ⟨_, its, m, q, congrArg Value.type (of_decide_eq_true h1), rfl, rfl, hz, rs⟩) (ps H) ?_⟩
        rw [(ps H).length, rs.length, Array.length_toList]; exact hz
      · cases h
    · cases h
def globB (K : PySem.W.Frag) (q : Str × PV) : Bool := match PySem.W.nsIn K mainGlobals q.1 with
  | some (some u) => rpB K 8 q.2 u
  | _ => false
def entB (K : PySem.W.Frag) (p : Str × PV) (e : DictEntry) : Bool := match e.key with
  | .str k _ => decide (k = p.1) && rpB K 8 p.2 e.val
  | _ => false
def dicB (K : PySem.W.Frag) (q : Str × List (Str × PV)) : Bool := He.eqO (PySem.W.nsIn K mainGlobals q.1) (some (some (.ref (He.ga K q.1)))) && (match K.lookup (He.ga K q.1) with
  | some ⟨_, _, .dict es _, _⟩ => all2 (entB K) q.2 es.toList
  | _ => false)
theorem all2_ent {K : PySem.W.Frag} : ∀ {d : List (Str × PV)} {es : List DictEntry}, all2 (entB K) d es = true → Paired (EntR K) d es
  | [], [], _ => .nil
  | [], _ :: _, h => by cases h
  | _ :: _, [], h => by cases h
  | x :: xs, u :: us, h => by
    obtain ⟨h1, h2⟩ := He.ba (show (entB K x u && all2 (entB K) xs us) = true from h)
    refine .cons ?_ (all2_ent h2)
    unfold entB at h1
    split at h1
    · rename_i k t e
      obtain ⟨h3, h4⟩ := He.ba h1
      obtain ⟨y, r, p⟩ := rpB_ok _ _ _ h4
      exact ⟨t, y, by rw [e, of_decide_eq_true h3], r, p⟩
    · cases h1
/-- a def, as it stands at the top, in the small language -/
structure DJ where
  name : Str
  st : Stmt
  N : List Str
  ps : List Str
  body : ISs
def DJ.d (j : DJ) : DefJ := ⟨j.ps.length, j.N.length, j.body⟩
def DJ.def_ (j : DJ) : He.DefD := ⟨(j.name, none), j.name, j.name, defArgs j.st, defBody j.st, defScope j.st, [], []⟩
def scopeB (N ps : List Str) (sc : Scope) : Bool := decide (sc.kind = .function) && !sc.isCoroutine && !sc.isGenerator && decide N.Nodup && decide (N.take ps.length = ps)
  && ps.all (fun x => decide (sc.names.lookup x = some .local) || decide (sc.names.lookup x = some .cell)) && sc.names.all (fun y => !decide (y.2 = .free))
theorem scopeB_ok {N ps : List Str} {sc : Scope} (h : scopeB N ps sc = true) : FnScope N ps sc := by
  unfold scopeB at h
  simp only [Bool.and_eq_true, decide_eq_true_eq, Bool.not_eq_true', List.all_eq_true, Bool.or_eq_true, decide_eq_false_iff_not] at h
  obtain ⟨⟨⟨⟨⟨⟨h1, h2⟩, h3⟩, h4⟩, h5⟩, h6⟩, h7⟩ := h
  exact ⟨h1, h2, h3, h4, h5, h6, h7⟩
def DJ.ok (ci : CI) (j : DJ) : Bool := scopeB j.N j.ps (defScope j.st) && chkSs ci j.N j.body (defScope j.st) (fun _ => true) (defBody j.st)
def DJ.bi (j : DJ) : Prop := ∀ (kV doc pm : Value) (an : Option Addr) (cdv ct : Value) (us : List Value), us.length = j.ps.length → bindArgs (PySem.W.fnOf j.name j.name (defArgs j.st) (defBody j.st) (defScope j.st) .none kV doc pm an cdv ct) ⟨us, []⟩ = pure (j.ps.zip us)
/-- an exception class with an own __init__ that notes a field -/
structure OxD where
  cls : Str
  f : Str
  above : Str
  st : Stmt
  N : List Str
  self : Str
  p : Str
def OxD.def_ (o : OxD) : He.DefD := ⟨(o.cls, some "__init__"), "__init__", o.cls ++ ".__init__", defArgs o.st, defBody o.st, defScope o.st, [], []⟩
def OxD.bi (o : OxD) : Prop := ∀ (kV doc pm : Value) (an : Option Addr) (cdv ct : Value) (us : List Value), us.length = [o.self, o.p].length → bindArgs (PySem.W.fnOf "__init__" (o.cls ++ ".__init__") (defArgs o.st) (defBody o.st) (defScope o.st) .none kV doc pm an cdv ct) ⟨us, []⟩ = pure ([o.self, o.p].zip us)
def OxD.ok (o : OxD) : Bool := scopeB o.N [o.self, o.p] (defScope o.st) && (okN o.self && (okN o.p && (!(o.above == ("__debug__" : Str)) && (match defBody o.st with
  | [.Expr (.Call (.Attribute (.Name x _) ini p2) [.Name s _, .Constant (.str _) _ _] [] p5) _, .Assign [.Attribute (.Name s' _) f _] (.Name p _) _] =>
    decide (ini = "__init__") && (decide (x = o.above) && (decide (s = o.self) && (decide (s' = o.self) && (decide (f = o.f) && (decide (p = o.p) && (decide (p2.endLine = p5.line) && glB (defScope o.st) x))))))
  | _ => false))))
def oexIn (K : PySem.W.Frag) (C : Addr) : Bool := match K.lookup C with
  | some ⟨.type "type", _, .cls cd, sl⟩ => (match cd.mro, sl.toList with
    | .ref C' :: bm, [_, _, _, _, some (.builtin n), _] => decide (C' = C) && (decide (n = "ValueError.__new__") && (!cd.hasDel && (cd.hasDict && PySem.HandSPX.refsVE bm)))
    | _, _ => false)
  | _ => false
theorem oexIn_ok {K : PySem.W.Frag} {C : Addr} (q : oexIn K C = true) : ∃ nm q N bs bm sn sub ab col dd k0 k1 k2 k3 k5, K.lookup C = some (excClassObj nm q C N bs bm true sn sub ab col dd k0 k1 k2 k3 k5 "ValueError.__new__") ∧ PySem.HandSPX.refsVE bm = true := by
  unfold oexIn at q
  split at q
  · rename_i dd cd sl ho
    split at q
    · rename_i C' bm k0 k1 k2 k3 n k5 hm hs
      obtain ⟨q1, q⟩ := He.ba q
      obtain ⟨q2, q⟩ := He.ba q
      obtain ⟨q3, q⟩ := He.ba q
      obtain ⟨q4, q5⟩ := He.ba q
      have q1 := of_decide_eq_true q1
      have q2 := of_decide_eq_true q2
      subst q1
      subst q2
      obtain ⟨nm, bs, mro, ns, qn, hd, sn, sub, ab, col, del⟩ := cd
      dsimp only at hm q3 q4
      subst hm
      subst q4
      have q3 : del = false := by simpa using q3
      subst q3
      have hsl : sl = #[k0, k1, k2, k3, some (.builtin "ValueError.__new__"), k5] := by
        obtain ⟨l⟩ := sl
        simp only at hs
        rw [hs]
      subst hsl
      exact ⟨nm, qn, ns, bs, bm, sn, sub, ab, col, dd, k0, k1, k2, k3, k5, ho, q5⟩
    · cases q
  · cases q
def OxD.more (K : PySem.W.Frag) (o : OxD) : Bool := oexIn K (He.ga K o.cls) && (He.eqO (PySem.W.findIn K (.ref (He.ga K o.cls)) "__setattr__") (some (some (.builtin "object.__setattr__"))) && (decide (PySem.W.subIn K (.ref (He.ga K o.cls)) (.type "BaseException") = some true) && (decide (PySem.W.typeIn K (.ref (He.ga K o.cls)) = some (.type "type")) && linB K (He.ga K o.above))))
/-- what a program's top holds -/
structure TopD where
  defs : List (Option DJ)
  gl : List (Option (Str × PV))
  di : List (Option (Str × List (Str × PV)))
  bl : List Str
  ex : List (Option Str)
  lm : List (List Str) := []
  wl : List (DJ × List (Nat × HB) × Option Str) := []
  top : Nat := 0
  ox : List (Option OxD) := []
def TopD.oxc (t : TopD) : List (Option (Str × Str)) := (List.range t.ox.length).map fun k => if ((t.ex[k]?).bind id).isNone = true then ((t.ox[k]?).bind id).map (fun o => (o.cls, o.f)) else none
def TopD.ci (t : TopD) : CI := ⟨t.defs.map (Option.map (·.name)), t.gl.map (Option.map (·.1)), t.di.map (Option.map (·.1)), t.bl, t.ex, t.defs.map (Option.map (·.ps.length)), t.lm, t.wl.map fun p => (p.1.name, p.2), t.top, t.oxc⟩
def TopD.g (t : TopD) : Glb := ⟨t.gl.map fun o => (o.map (·.2)).getD .none, t.di.map fun o => (o.map (·.2)).getD []⟩
def TopD.ds (t : TopD) : List (Option DefJ) := t.defs.map (Option.map DJ.d)
def TopD.dl (t : TopD) : List DJ := t.defs.filterMap id
def TopD.fa0 (t : TopD) : List He.Fa := t.dl.map (fun j => .glo j.name) ++ t.wl.map (fun p => .glo p.1.name) ++ t.bl.map .free ++ (t.ex.filterMap id).map .glo ++ (t.ex.filterMap id).map .exc
def TopD.ol (t : TopD) : List OxD := t.ox.filterMap id
def TopD.fa (t : TopD) : List He.Fa := t.fa0 ++ t.ol.map (fun o => .glo o.cls) ++ t.ol.map (fun o => .meth o.cls "__init__") ++ t.ol.map (fun o => .noat o.cls o.f) ++ t.ol.map (fun o => .keep o.cls) ++ t.ol.map (fun o => .glo o.above)
theorem TopD.fa_of {t : TopD} {f : He.Fa} (h : f ∈ t.fa0) : f ∈ t.fa := by
  unfold TopD.fa
  simp only [List.mem_append]
  exact .inl (.inl (.inl (.inl (.inl h))))
def TopD.fn0 (t : TopD) : List He.DefD := t.dl.map DJ.def_ ++ t.wl.map fun p => p.1.def_
def TopD.fn (t : TopD) : List He.DefD := t.fn0 ++ t.ol.map OxD.def_
theorem TopD.fn_of {t : TopD} {f : He.DefD} (h : f ∈ t.fn0) : f ∈ t.fn := List.mem_append.mpr (.inl h)
def TopD.ts (t : TopD) : List He.Tab := (t.di.filterMap id).map fun q => (fun K => He.ga K q.1, q.2.map (·.1))
/-- the name of an exception class by its number -/
def TopD.xn (t : TopD) (k : Nat) : Option Str := match (t.ex[k]?).bind id with
  | some x => some x
  | none => ((t.ox[k]?).bind id).map (·.cls)
def TopD.nx (t : TopD) : Nat := t.ex.length + t.ox.length
theorem TopD.xn_lt {t : TopD} {k : Nat} {x : Str} (h : t.xn k = some x) : k < t.nx := by
  unfold TopD.xn at h
  unfold TopD.nx
  split at h
  · rename_i y e
    cases q : t.ex[k]? with
    | none => rw [q] at e; cases e
    | some o => have := (List.getElem?_eq_some_iff.mp q).1; omega
  · cases q : t.ox[k]? with
    | none => rw [q] at h; cases h
    | some o => have := (List.getElem?_eq_some_iff.mp q).1; omega
theorem TopD.xn_mem {t : TopD} {k : Nat} {x : Str} (h : t.xn k = some x) : x ∈ t.ex.filterMap id ∨ ∃ o ∈ t.ol, o.cls = x := by
  unfold TopD.xn at h
  split at h
  · rename_i y e
    cases h
    cases q : t.ex[k]? with
    | none => rw [q] at e; cases e
    | some o => rw [q] at e; cases o with
      | none => cases e
      | some z => cases e; exact .inl (List.mem_filterMap.mpr ⟨some x, List.mem_of_getElem? q, rfl⟩)
  · cases q : t.ox[k]? with
    | none => rw [q] at h; cases h
    | some o => rw [q] at h; cases o with
      | none => cases h
      | some z => cases h; exact .inr ⟨z, List.mem_filterMap.mpr ⟨some z, List.mem_of_getElem? q, rfl⟩, rfl⟩
/-- which clause takes which exception; which field is read of which -/
def TopD.exmB (t : TopD) (K : PySem.W.Frag) : Bool := t.wl.isEmpty || ((List.range t.nx).all fun k => (List.range t.nx).all fun i => match t.xn k, t.xn i with
  | some a, some b => decide (PySem.W.exmOne K (.ref (He.ga K a)) (.ref (He.ga K b)) = some (i == k || i == t.top))
  | _, _ => true) && t.wl.all fun p => (List.range t.nx).all fun k => match wordJ t.top p.2.1 k, t.xn k with
    | some (.fld f), some a => xfB K (He.ga K a) && He.eqO (PySem.W.findIn K (.ref (He.ga K a)) f) (some none)
    | _, _ => true
def TopD.more (t : TopD) (K : PySem.W.Frag) : Bool := (t.gl.filterMap id).all (globB K) && ((t.di.filterMap id).all (dicB K) && (t.exmB K && t.ol.all (OxD.more K)))
/-- the clauses of a def that tells words -/
def hdsB (xn : Nat → Option Str) (sc : Scope) (N : List Str) : List ExceptHandler → List (Nat × HB) → Bool
  | [], [] => true
  | .ExceptHandler (some (.Name e _)) none [.Return (some (.Constant (.str w') _ _)) _] _ :: r, (k, .word w) :: hs => decide (xn k = some e) && (glB sc e && (!(e == ("__debug__" : Str)) && (decide (w = w') && hdsB xn sc N r hs)))
  | .ExceptHandler (some (.Name e _)) (some n) [.Return (some (.Attribute (.Name n' _) f' _)) _] _ :: r, (k, .fld f) :: hs => decide (xn k = some e) && (glB sc e && (!(e == ("__debug__" : Str)) && (decide (f = f' ∧ n = n' ∧ n ∈ N ∧ sc.names.lookup n = some .local) && (okN n && hdsB xn sc N r hs))))
  | _, _ => false
def wordB (t : TopD) (q : DJ × List (Nat × HB) × Option Str) : Bool := scopeB q.1.N q.1.ps (defScope q.1.st) && (okN q.1.name && (match q.1.ps, defBody q.1.st, q.2.2 with
  | [a], [.Try [.Expr (.Call (.Name a' _) [] [] _) _] (h₀ :: hds) [] [] _, .Return (some (.Constant (.str f) _ _)) _], some fine => decide (a = a') && (decide (f = fine) && (okN a && hdsB t.xn (defScope q.1.st) q.1.N (h₀ :: hds) q.2.1))
  | [a], [.Try [.Return (some (.Call (.Name a' _) [] [] _)) _] (h₀ :: hds) [] [] _], none => decide (a = a') && (okN a && hdsB t.xn (defScope q.1.st) q.1.N (h₀ :: hds) q.2.1)
  | _, _, _ => false))
/-- the code object of a def, and its table -/
def lamOne (K : PySem.W.Frag) (j : DJ) : Option (Addr × Addr × Str) := match K.lookup (He.ga K j.name) with
  | some ⟨_, _, .func fd, _⟩ => (match fd.code with
    | .ref c => (match K.lookup c with
      | some ⟨_, _, .fields vs, _⟩ => (match (vs[11]? : Option Value) with
        | some (.ref P) => some (c, P, j.name ++ ".<locals>." ++ "<lambda>")
        | _ => none)
      | _ => none)
    | _ => none)
  | _ => none
theorem lamOne_of {K : PySem.W.Frag} {j : DJ} {r : Addr × Addr × Str} {oc : Value} {od : Option Addr} {fd : FuncData} {osl : Array (Option Value)} (lk : K.lookup (He.ga K j.name) = some ⟨oc, od, .func fd, osl⟩) (h : lamOne K j = some r) : fd.code = .ref r.1 ∧ r.2.2 = j.name ++ ".<locals>." ++ "<lambda>" := by
  unfold lamOne at h
  rw [lk] at h
  simp only at h
  split at h
  · rename_i c hc
    split at h
    · split at h
      · cases h
        exact ⟨hc, rfl⟩
      · cases h
    · cases h
  · cases h
def TopD.lamL (t : TopD) (K : PySem.W.Frag) : List (Addr × Addr × Str) := t.dl.filterMap fun j => if j.N ∈ t.lm then lamOne K j else none
def TopD.lamB (t : TopD) (K : PySem.W.Frag) (ts : List Addr) : Bool := t.dl.all (fun j => !decide (j.N ∈ t.lm) || (lamOne K j).isSome) && (t.lamL K).all fun p => decide (p.2.1 ∈ ts) && ((K.lookup p.2.1).isNone && (PySem.W.codeHdIn K p.1 p.2.1 && (t.lamL K).all fun r => !decide (r.2.1 = p.2.1) || decide (r.2.2 = p.2.2)))
def TopD.xc (t : TopD) (K : PySem.W.Frag) : XC := fun k => (t.xn k).map fun x => .ref (He.ga K x)
/-- what the head's heap tells -/
structure SaysK (t : TopD) (w : World) (K : PySem.W.Frag) : Prop where
  d : He.SaysT t.fa t.fn t.ts w K
  more : t.more K = true
theorem get_map {α β : Type} {f : α → β} {l : List (Option α)} {j : Nat} {b : β} (h : (l.map (Option.map f))[j]? = some (some b)) : ∃ a, l[j]? = some (some a) ∧ f a = b ∧ a ∈ l.filterMap id := by
  rw [List.getElem?_map] at h
  cases q : l[j]? with
  | none => rw [q] at h; cases h
  | some a =>
    rw [q] at h
    cases a with
    | none => cases h
    | some a => cases h; exact ⟨a, rfl, rfl, List.mem_filterMap.mpr ⟨some a, List.mem_of_getElem? q, rfl⟩⟩
theorem fun_of {K : PySem.W.Frag} {j : DJ} {f : Addr} {fd : FuncData} (F : FunD K j.name j.name (defArgs j.st) (defBody j.st) (defScope j.st) [] [] f fd) : Fun K j.name j.name j.st f fd := by
  obtain ⟨oc, od, dV, kV, doc, pm, an, cdv, ct, osl, e, lk, hcd, hD, hK⟩ := F.ex
  rcases hD with ⟨_, rfl⟩ | ⟨q, _⟩
  · exact ⟨⟨oc, od, kV, doc, pm, an, cdv, ct, osl, e, lk, hcd⟩, F.kp⟩
  · exact absurd rfl q
theorem ix_of {α : Type} {l : List α} {a : α} (h : a ∈ l) : ∃ i : Nat, l[i]? = some a := List.mem_iff_getElem?.mp h
section
variable {t : TopD} {n : Nat} {w : World} {h : Heap} {K : PySem.W.Frag} {mg : Str → Option Value}
theorem fun_at (c : SaysK t w K) (X : K.In h) (G : h.Ns mainGlobals mg) {j : DJ} (hj : j ∈ t.dl ∨ ∃ p ∈ t.wl, p.1 = j) : ∃ fd, FunD K j.name j.name (defArgs j.st) (defBody j.st) (defScope j.st) [] [] (He.ga K j.name) fd ∧ mg j.name = some (.ref (He.ga K j.name)) := by
  obtain ⟨fd, F⟩ := c.d.d.defs (d := j.def_) (by
    refine TopD.fn_of ?_
    unfold TopD.fn0
    rw [List.mem_append]
    rcases hj with hj | ⟨p, hp, rfl⟩
    · exact .inl (List.mem_map.mpr ⟨j, hj, rfl⟩)
    · exact .inr (List.mem_map.mpr ⟨p, hp, rfl⟩))
  refine ⟨fd, F, He.glo_ok X G (x := j.name) (c.d.d.facts (TopD.fa_of ?_))⟩
  unfold TopD.fa0
  simp only [List.mem_append]
  rcases hj with hj | ⟨p, hp, rfl⟩
  · exact .inl (.inl (.inl (.inl (List.mem_map.mpr ⟨j, hj, rfl⟩))))
  · exact .inl (.inl (.inl (.inr (List.mem_map.mpr ⟨p, hp, rfl⟩))))
theorem def_of (hL : ∀ p ∈ t.lamL K, p ∈ LamT.L) {ts : List Addr} (hB : t.lamB K ts = true) (c : SaysK t w K) (X : K.In h) (G : h.Ns mainGlobals mg) (ok : ∀ j ∈ t.dl, j.ok t.ci = true) (bi : ∀ j ∈ t.dl, j.bi) {j : DJ} (hj : j ∈ t.dl) : ∃ fd, DefOk K mg t.ci j.name j.d (He.ga K j.name) fd j.ps := by
  obtain ⟨fd, F', hm⟩ := fun_at c X G (.inl hj)
  obtain ⟨o1, o2⟩ := He.ba (ok j hj)
  refine ⟨fd, ⟨_, j.st, j.N, fun_of F', scopeB_ok o1, o2, rfl, fun hl => ?_⟩, rfl, hm, F'.bindsN (bi j hj)⟩
  obtain ⟨b1, _⟩ := He.ba hB
  have z := List.all_eq_true.mp b1 j hj
  have hl : j.N ∈ t.lm := hl
  rw [decide_eq_true hl, Bool.not_true, Bool.false_or] at z
  obtain ⟨r, hr⟩ := Option.isSome_iff_exists.mp z
  obtain ⟨oc, od, dV, kV, doc, pm, an, cdv, ct, osl, e, lk, hcd, hD, hK⟩ := F'.ex
  obtain ⟨e1, e2⟩ := lamOne_of lk hr
  refine ⟨r.1, r.2.1, e1, ?_⟩
  rw [← e2]
  refine hL r ?_
  unfold TopD.lamL
  exact List.mem_filterMap.mpr ⟨j, hj, by rw [if_pos hl]; exact hr⟩
open Classical in
noncomputable def ixOf (N : List Str) (n : Str) : Nat := if h : ∃ i : Nat, N[i]? = some n then h.choose else 0
theorem ixOf_ok {N : List Str} {n : Str} (h : n ∈ N) : N[ixOf N n]? = some n := by
  have e := ix_of h
  unfold ixOf
  rw [dif_pos e]
  exact e.choose_spec
noncomputable def lwOf (xs : Nat → Addr) (N : List Str) : List ExceptHandler → List (Nat × HB) → List ClW
  | .ExceptHandler _ none _ _ :: r, (k, b) :: hs => (.ref (xs k), b, none) :: lwOf xs N r hs
  | .ExceptHandler _ (some n) _ _ :: r, (k, b) :: hs => (.ref (xs k), b, some (ixOf N n)) :: lwOf xs N r hs
  | _, _ => []
theorem hds_ok {xn : Nat → Option Str} {sc : Scope} {N : List Str} {xs : Nat → Addr} {X : Cx} (nd : N.Nodup) (hm : ∀ k e, xn k = some e → X.mg e = some (.ref (xs k))) : ∀ {hds : List ExceptHandler} {hs : List (Nat × HB)}, hdsB xn sc N hds hs = true →
    Clauses X sc N hds (lwOf xs N hds hs)
  | hds, hs, h => by
    unfold hdsB at h
    split at h
    · exact .nil
    · obtain ⟨h1, h⟩ := He.ba h
      obtain ⟨h2, h⟩ := He.ba h
      obtain ⟨h3, h⟩ := He.ba h
      obtain ⟨h4, h5⟩ := He.ba h
      have h4 := of_decide_eq_true h4
      subst h4
      have h2 : (sc.names.lookup _ == some NameKind.globalImplicit) = true := h2
      exact .cons (eq_of_beq h2) (hm _ _ (of_decide_eq_true h1)) (by simpa using h3) (hds_ok nd hm h5)
    · obtain ⟨h1, h⟩ := He.ba h
      obtain ⟨h2, h⟩ := He.ba h
      obtain ⟨h3, h⟩ := He.ba h
      obtain ⟨h4, h⟩ := He.ba h
      obtain ⟨h5, h6⟩ := He.ba h
      obtain ⟨e1, e2, e3, e4⟩ := of_decide_eq_true h4
      subst e1
      subst e2
      have h2 : (sc.names.lookup _ == some NameKind.globalImplicit) = true := h2
      exact .fld (i := ixOf N _) (eq_of_beq h2) (hm _ _ (of_decide_eq_true h1)) (by simpa using h3) nd (ixOf_ok e3) e4 (okN_of h5).1 (okN_of h5).2 (hds_ok nd hm h6)
    · cases h
theorem lw_eq {xn : Nat → Option Str} {sc : Scope} {N : List Str} {xs : Nat → Addr} : ∀ {hds : List ExceptHandler} {hs : List (Nat × HB)}, hdsB xn sc N hds hs = true → hs.map (fun p => (Value.ref (xs p.1), p.2)) = (lwOf xs N hds hs).map fun p => (p.1, p.2.1)
  | hds, hs, h => by
    unfold hdsB at h
    split at h
    · rfl
    · obtain ⟨h1, h⟩ := He.ba h
      obtain ⟨h2, h⟩ := He.ba h
      obtain ⟨h3, h⟩ := He.ba h
      obtain ⟨h4, h5⟩ := He.ba h
      rw [List.map_cons, lw_eq (xs := xs) h5]
      rfl
    · obtain ⟨h1, h⟩ := He.ba h
      obtain ⟨h2, h⟩ := He.ba h
      obtain ⟨h3, h⟩ := He.ba h
      obtain ⟨h4, h⟩ := He.ba h
      obtain ⟨h5, h6⟩ := He.ba h
      rw [List.map_cons, lw_eq (xs := xs) h6]
      rfl
    · cases h
theorem hds_xn {t : TopD} : ∀ {hds : List ExceptHandler} {hs : List (Nat × HB)} {sc : Scope} {N : List Str} {i : Nat} {p : Nat × HB}, hdsB t.xn sc N hds hs = true → hs[i]? = some p → ∃ b, t.xn p.1 = some b
  | hds, hs, sc, N, i, p, hb, hi => by
    unfold hdsB at hb
    split at hb
    · simp at hi
    · obtain ⟨h1, hb⟩ := He.ba hb
      obtain ⟨_, hb⟩ := He.ba hb
      obtain ⟨_, hb⟩ := He.ba hb
      obtain ⟨_, hb⟩ := He.ba hb
      cases i with
      | zero => simp at hi; subst hi; exact ⟨_, of_decide_eq_true h1⟩
      | succ i => exact hds_xn hb (by simpa using hi)
    · obtain ⟨h1, hb⟩ := He.ba hb
      obtain ⟨_, hb⟩ := He.ba hb
      obtain ⟨_, hb⟩ := He.ba hb
      obtain ⟨_, hb⟩ := He.ba hb
      obtain ⟨_, hb⟩ := He.ba hb
      cases i with
      | zero => simp at hi; subst hi; exact ⟨_, of_decide_eq_true h1⟩
      | succ i => exact hds_xn hb (by simpa using hi)
    · cases hb
theorem ex_at (c : SaysK t w K) (X : K.In h) (G : h.Ns mainGlobals mg) (k : Nat) (x : Str) (hx : t.xn k = some x) : mg x = some (.ref (He.ga K x)) := by
  rcases TopD.xn_mem hx with hm | ⟨o, ho, rfl⟩
  · exact He.glo_ok X G (x := x) (c.d.d.facts (TopD.fa_of (by
      unfold TopD.fa0
      simp only [List.mem_append]
      exact .inl (.inr (List.mem_map.mpr ⟨x, hm, rfl⟩)))))
  · exact He.glo_ok X G (x := o.cls) (c.d.d.facts (by
      unfold TopD.fa
      simp only [List.mem_append]
      exact .inl (.inl (.inl (.inl (.inr (List.mem_map.mpr ⟨o, ho, rfl⟩)))))))
theorem words_of (c : SaysK t w K) (X : K.In h) (G : h.Ns mainGlobals mg) (wk : ∀ p ∈ t.wl, wordB t p = true) (bw : ∀ p ∈ t.wl, p.1.bi) (x : Str) (hs : List (Nat × HB)) (fine : Option Str) (hw : (x, hs, fine) ∈ t.ci.wl) :
    ∃ l : List (Value × HB), WordOk K mg x fine l ∧ (∀ k cv, t.xc K k = some cv → l.length = hs.length ∧ ∀ (i : Nat) (p : Nat × HB) (q : Value × HB), hs[i]? = some p → l[i]? = some q → q.2 = p.2 ∧ PySem.W.exmOne K cv q.1 = some (p.1 == k || p.1 == t.ci.top)) ∧
      ∀ (k : Nat) (c : Value) (f : Str), t.xc K k = some c → wordJ t.ci.top hs k = some (.fld f) → ∃ C : Addr, c = .ref C ∧ XfC K C ∧ PySem.W.findIn K (.ref C) f = some none := by
  obtain ⟨p, hp, e⟩ := List.mem_map.mp (show (x, hs, fine) ∈ t.wl.map fun p => (p.1.name, p.2) from hw)
  obtain ⟨j, hs', fine'⟩ := p
  cases e
  have ne : t.wl.isEmpty = false := by
    cases hq : t.wl with
    | nil => rw [hq] at hp; cases hp
    | cons _ _ => rfl
  obtain ⟨fd, F, hm⟩ := fun_at c X G (j := j) (.inr ⟨_, hp, rfl⟩)
  have bj := bw _ hp
  have W := wk _ hp
  unfold wordB at W
  obtain ⟨s1, W⟩ := He.ba W
  obtain ⟨s2, W⟩ := He.ba W
  have SC := scopeB_ok s1
  obtain ⟨_, m⟩ := He.ba c.more
  obtain ⟨_, m⟩ := He.ba m
  obtain ⟨m, _⟩ := He.ba m
  unfold TopD.exmB at m
  rw [ne, Bool.false_or] at m
  obtain ⟨m1, m2⟩ := He.ba m
  let xs : Nat → Addr := fun k => He.ga K ((t.xn k).getD Str.empty)
  have xsE : ∀ {k e}, t.xn k = some e → xs k = He.ga K e := fun {k e} h => by
    show He.ga K _ = _
    rw [h]
    rfl
  have xcE : ∀ {k cv}, t.xc K k = some cv → ∃ a, t.xn k = some a ∧ cv = .ref (He.ga K a) := fun {k cv} h => by
    unfold TopD.xc at h
    cases q : t.xn k with
    | none => rw [q] at h; cases h
    | some a => rw [q] at h; cases h; exact ⟨a, rfl, rfl⟩
  have hmem : ∀ {i : Nat} {p : Nat × HB}, hs[i]? = some p → ∃ b, t.xn p.1 = some b := fun {i p} hi => by
    split at W
    · obtain ⟨_, W⟩ := He.ba W
      obtain ⟨_, W⟩ := He.ba W
      obtain ⟨_, W⟩ := He.ba W
      exact hds_xn W hi
    · obtain ⟨_, W⟩ := He.ba W
      obtain ⟨_, W⟩ := He.ba W
      exact hds_xn W hi
    · cases W
  refine ⟨hs.map fun p => (.ref (xs p.1), p.2), ⟨?_⟩, fun k cv hk => ⟨by rw [List.length_map], fun i p q hpi hqi => ?_⟩, fun k cv f hk hf => ?_⟩
  · obtain ⟨oc, od, dV, kV, doc, pm, an, cdv, ct, osl, e, lk, hcd, hD, hK⟩ := F.ex
    have kp := F.kp
    have BN := F.bindsN bj
    have pars : ∀ {a : Str}, j.ps = [a] → Vis (defScope j.st) a ∧ j.N[0]? = some a := fun {a} e1 => by
      refine ⟨?_, ?_⟩
      · rcases SC.par a (by rw [e1]; exact List.mem_cons_self) with q | q
        · exact .inl q
        · exact .inr (.inl q)
      · have := SC.pre
        rw [e1] at this
        have h2 := congrArg (fun l : List Str => l[0]?) this
        simpa [List.getElem?_take] using h2
    dsimp only at W s1 SC BN
    split at W
    · rename_i a a' p1 p2 p3 h₀ hds p8 f jj p5 p6 fine e1 e2 W1 W2
      obtain ⟨w1, W⟩ := He.ba W
      obtain ⟨w2, W⟩ := He.ba W
      obtain ⟨w3, w4⟩ := He.ba W
      have w1 := of_decide_eq_true w1
      have w2 := of_decide_eq_true w2
      subst w1
      subst w2
      obtain ⟨hvis, hN0⟩ := pars e1
      rw [e1] at SC BN
      subst e
      have w3' := okN_of w3
      exact ⟨He.ga K j.name, a, j.N, defArgs j.st, _, defScope j.st, dV, kV, doc, pm, cdv, ct, oc, an, od, osl, h₀, hds, _, hm, kp, by rw [e2]; exact .word, lw_eq w4, lk, hcd, BN, SC, hN0, hvis, w3'.1, w3'.2, (okN_of s2).1,
        fun Y hY => hds_ok (xs := xs) SC.nd (fun k e he => by rw [hY, xsE he]; exact ex_at c X G k e he) w4⟩
    · rename_i a a' p1 p2 p3 h₀ hds p8 e1 e2 W1 W2
      obtain ⟨w1, W⟩ := He.ba W
      obtain ⟨w3, w4⟩ := He.ba W
      have w1 := of_decide_eq_true w1
      subst w1
      obtain ⟨hvis, hN0⟩ := pars e1
      rw [e1] at SC BN
      subst e
      have w3' := okN_of w3
      exact ⟨He.ga K j.name, a, j.N, defArgs j.st, _, defScope j.st, dV, kV, doc, pm, cdv, ct, oc, an, od, osl, h₀, hds, _, hm, kp, by rw [e2]; exact .val, lw_eq w4, lk, hcd, BN, SC, hN0, hvis, w3'.1, w3'.2, (okN_of s2).1,
        fun Y hY => hds_ok (xs := xs) SC.nd (fun k e he => by rw [hY, xsE he]; exact ex_at c X G k e he) w4⟩
    · cases W
  · rw [List.getElem?_map, hpi] at hqi
    cases hqi
    refine ⟨rfl, ?_⟩
    obtain ⟨a, ha, rfl⟩ := xcE hk
    obtain ⟨b, hb⟩ := hmem hpi
    have z := List.all_eq_true.mp (List.all_eq_true.mp m1 k (List.mem_range.mpr (TopD.xn_lt ha))) p.1 (List.mem_range.mpr (TopD.xn_lt hb))
    rw [ha, hb] at z
    have z := of_decide_eq_true z
    show PySem.W.exmOne K (.ref (He.ga K a)) (.ref (xs p.1)) = _
    rw [xsE hb]
    exact z
  · obtain ⟨a, ha, rfl⟩ := xcE hk
    have z := List.all_eq_true.mp (List.all_eq_true.mp m2 _ hp) k (List.mem_range.mpr (TopD.xn_lt ha))
    have hf : wordJ t.top hs k = some (.fld f) := hf
    rw [ha, hf] at z
    obtain ⟨z1, z2⟩ := He.ba z
    exact ⟨_, rfl, xfB_ok z1, He.eqO_ok z2⟩
theorem topJ_of (hL : ∀ p ∈ t.lamL K, p ∈ LamT.L) {ts : List Addr} (hB : t.lamB K ts = true) (c : SaysK t w K) (X : K.In h) (G : h.Ns mainGlobals mg) (ok : ∀ j ∈ t.dl, j.ok t.ci = true) (bi : ∀ j ∈ t.dl, j.bi) (wk : ∀ p ∈ t.wl, wordB t p = true) (bw : ∀ p ∈ t.wl, p.1.bi) (xk : ∀ o ∈ t.ol, o.ok = true) (bx : ∀ o ∈ t.ol, o.bi) : TopJ w K mg (t.xc K) t.ci t.g t.ds := by
  obtain ⟨m1, m2⟩ := He.ba c.more
  obtain ⟨m2, _⟩ := He.ba m2
  refine ⟨fun j x hx => ?_, fun j x hx => ?_, fun x hx => ?_, fun k x hx => ?_, fun x hs fine hw => words_of c X G wk bw x hs fine hw, fun k x f hx => ?_, fun j x hx => ?_⟩
  · obtain ⟨q, h1, rfl, h2⟩ := get_map hx
    have z := List.all_eq_true.mp m1 q h2
    unfold globB at z
    split at z
    · rename_i u e
      obtain ⟨y, r, p⟩ := rpB_ok _ _ _ z
      exact ⟨y, u, q.2, by show (t.gl.map _)[j]? = _; rw [List.getElem?_map, h1]; rfl, PySem.W.mg_of X G e, r, p⟩
    · cases z
  · obtain ⟨q, h1, rfl, h2⟩ := get_map hx
    obtain ⟨z1, z2⟩ := He.ba (List.all_eq_true.mp m2 q h2)
    obtain ⟨i, hi⟩ := ix_of h2
    obtain ⟨es, m, D⟩ := c.d.tab i (t := (fun K => He.ga K q.1, q.2.map (·.1))) (by unfold TopD.ts; rw [List.getElem?_map, hi]; rfl)
    have D : KDict K w (He.ga K q.1) es m := D
    rw [D.at_] at z2
    exact ⟨He.ga K q.1, q.2, by show (t.di.map _)[j]? = _; rw [List.getElem?_map, h1]; rfl, PySem.W.mg_of X G (He.eqO_ok z1), ⟨es, m, D.at_, D.lit, all2_ent z2⟩, D.low⟩
  · exact He.free_ok X G (c.d.d.facts (TopD.fa_of (by
      unfold TopD.fa0
      simp only [List.mem_append]
      exact .inl (.inl (.inr (List.mem_map.mpr ⟨x, hx, rfl⟩))))))
  · have hx' : t.ex[k]? = some (some x) := hx
    have hm : x ∈ t.ex.filterMap id := List.mem_filterMap.mpr ⟨some x, List.mem_of_getElem? hx', rfl⟩
    have hm' := He.glo_ok X G (x := x) (c.d.d.facts (TopD.fa_of (by
      unfold TopD.fa0
      simp only [List.mem_append]
      exact .inl (.inr (List.mem_map.mpr ⟨x, hm, rfl⟩)))))
    obtain ⟨e1, e2, e3, e4⟩ := He.exc_ok (K := K) (x := x) (c.d.d.facts (TopD.fa_of (by
      unfold TopD.fa0
      simp only [List.mem_append]
      exact .inr (List.mem_map.mpr ⟨x, hm, rfl⟩))))
    exact ⟨He.ga K x, He.veBase, "ValueError", "ValueError.__new__", "ValueError.__init__", by unfold TopD.xc TopD.xn; rw [hx']; rfl, hm', PySem.F.excBase_ValueError, e1, e2, e3, e4⟩
  · have hx : t.oxc[k]? = some (some (x, f)) := hx
    unfold TopD.oxc at hx
    rw [List.getElem?_map] at hx
    have hlt : k < t.ox.length := by
      cases q : (List.range t.ox.length)[k]? with
      | none => rw [q] at hx; cases hx
      | some i => simpa using (List.getElem?_eq_some_iff.mp q).1
    rw [List.getElem?_range hlt] at hx
    simp only [Option.map_some, Option.some.injEq] at hx
    split at hx
    case isFalse => cases hx
    rename_i hnone
    cases h1 : (t.ox[k]?).bind id with
    | none => rw [h1] at hx; cases hx
    | some o =>
    rw [h1] at hx
    cases hx
    have h2 : o ∈ t.ol := by
      cases q : t.ox[k]? with
      | none => rw [q] at h1; cases h1
      | some r =>
        rw [q] at h1
        cases r with
        | none => cases h1
        | some y =>
          have h1 : y = o := Option.some.inj h1
          subst h1
          exact List.mem_filterMap.mpr ⟨some y, List.mem_of_getElem? q, rfl⟩
    obtain ⟨_, m3⟩ := He.ba c.more
    obtain ⟨_, m3⟩ := He.ba m3
    obtain ⟨_, m3⟩ := He.ba m3
    have z := List.all_eq_true.mp m3 o h2
    unfold OxD.more at z
    obtain ⟨z1, z⟩ := He.ba z
    obtain ⟨z2, z⟩ := He.ba z
    obtain ⟨z3, z⟩ := He.ba z
    obtain ⟨z4, z5⟩ := He.ba z
    have g : ∀ {f : He.Fa}, f ∈ t.fa → f.ok K = true := fun h => c.d.d.facts h
    have f1 := He.glo_ok X G (x := o.cls) (g (by
      unfold TopD.fa
      simp only [List.mem_append]
      exact .inl (.inl (.inl (.inl (.inr (List.mem_map.mpr ⟨o, h2, rfl⟩)))))))
    have f2 := He.meth_ok (K := K) (x := o.cls) (m := "__init__") (g (by
      unfold TopD.fa
      simp only [List.mem_append]
      exact .inl (.inl (.inl (.inr (List.mem_map.mpr ⟨o, h2, rfl⟩))))))
    have f3 : PySem.W.findIn K (.ref (He.ga K o.cls)) o.f = some none := He.noat_ok (K := K) (x := o.cls) (f := o.f) (g (by
      unfold TopD.fa
      simp only [List.mem_append]
      exact .inl (.inl (.inr (List.mem_map.mpr ⟨o, h2, rfl⟩)))))
    have f4 := He.keep_ok (K := K) (x := o.cls) (g (by
      unfold TopD.fa
      simp only [List.mem_append]
      exact .inl (.inr (List.mem_map.mpr ⟨o, h2, rfl⟩))))
    have f5 := He.glo_ok X G (x := o.above) (g (by
      unfold TopD.fa
      simp only [List.mem_append]
      exact .inr (List.mem_map.mpr ⟨o, h2, rfl⟩)))
    obtain ⟨fd, F⟩ := c.d.d.defs (d := o.def_) (List.mem_append.mpr (.inr (List.mem_map.mpr ⟨o, h2, rfl⟩)))
    have F : FunD K "__init__" (o.cls ++ ".__init__") (defArgs o.st) (defBody o.st) (defScope o.st) [] [] (He.ma K (He.ga K o.cls) "__init__") fd := F
    have hk := xk o h2
    unfold OxD.ok at hk
    obtain ⟨k1, hk⟩ := He.ba hk
    obtain ⟨k2, hk⟩ := He.ba hk
    obtain ⟨k3, hk⟩ := He.ba hk
    obtain ⟨k4, hk⟩ := He.ba hk
    have T : OexC K (He.ga K o.cls) := ⟨oexIn_ok z1, He.eqO_ok z2, of_decide_eq_true z3, of_decide_eq_true z4, f4⟩
    have hxc : t.xc K k = some (.ref (He.ga K o.cls)) := by
      unfold TopD.xc TopD.xn
      rw [Option.isNone_iff_eq_none.mp hnone, h1]
      rfl
    refine ⟨_, _, fd, [o.self, o.p], hxc, f1, T, f2.at_, by simpa [PySem.W.isFn] using f2.fn, F.bindsN (bx o h2), fun P base => ?_⟩
    split at hk
    · rename_i x p1 ini p2 s p3 m j p4 p5 p6 s' p7 f p8 p p9 p10 eb
      obtain ⟨b1, hk⟩ := He.ba hk
      obtain ⟨b2, hk⟩ := He.ba hk
      obtain ⟨b3, hk⟩ := He.ba hk
      obtain ⟨b4, hk⟩ := He.ba hk
      obtain ⟨b5, hk⟩ := He.ba hk
      obtain ⟨b6, hk⟩ := He.ba hk
      obtain ⟨b7, b8⟩ := He.ba hk
      have b1 := of_decide_eq_true b1
      have b2 := of_decide_eq_true b2
      have b3 := of_decide_eq_true b3
      have b4 := of_decide_eq_true b4
      have b5 := of_decide_eq_true b5
      have b6 := of_decide_eq_true b6
      have b7 := of_decide_eq_true b7
      subst b1 b2 b3
      rw [b4, b5, b6] at eb
      rw [eb] at F
      have b8 : ((defScope o.st).names.lookup _ == some NameKind.globalImplicit) = true := b8
      exact init_ok F (scopeB_ok k1) (eq_of_beq b8) f5 (linB_ok z5) (by simpa using k4) f3 k2 k3 b7
    · cases hk
  · obtain ⟨q, h1, rfl, h2⟩ := get_map hx
    obtain ⟨fd, D⟩ := def_of hL hB c X G ok bi h2
    exact ⟨q.d, He.ga K q.name, fd, q.ps, by show (t.defs.map _)[j]? = _; rw [List.getElem?_map, h1]; rfl, D, fun m hm => by
      have hm : (t.defs.map (Option.map (·.ps.length)))[j]? = some (some m) := hm
      rw [List.getElem?_map, h1] at hm
      cases hm; rfl⟩
end
omit [LamT] in
/-- the end: the law's def is the li-th; ts: the tables of the defs that make lambdas -/
theorem walkJT {l : PySem.W.OpenLaw} {t : TopD} {k li : Nat} {ts : List Addr} {q : Program} {loose : List Str} {XP : (Str → Option Value) → Heap → Prop} {YP : World → Heap → Prop} {d : DefRec} {K : Params → PySem.W.Frag} {x : Str} {jl : DJ}
    (hn : l.most = some 63) (hdf : d.params.defaults = []) (hr : Room (5 * k) callerA) (hl : t.defs[li]? = some (some jl)) (hname : d.name = jl.name) (hps : jl.ps = [x])
    (ok : ∀ j ∈ t.dl, j.ok t.ci = true) (bi : ∀ j ∈ t.dl, j.bi) (wk : ∀ p ∈ t.wl, wordB t p = true) (bw : ∀ p ∈ t.wl, p.1.bi) (xk : ∀ o ∈ t.ol, o.ok = true) (bx : ∀ o ∈ t.ol, o.bi)
    (law : ∀ ns : List Int, ns.length ≤ 63 → ∃ st, callJ t.ds t.g k li [.pv (.list (ns.map PyData.int))] [] = .ok (.pv (.bool true)) st)
    (hY : ∀ (w : World) (h : Heap), YP w h → (K w.params).In h) (hT : ∀ (w : World) (h : Heap), YP w h → ∀ P ∈ ts, h.get? P = some (PySem.W.tabObj #[])) (C : ∀ w : World, SaysK t w (K w.params)) (B : ∀ w : World, t.lamB (K w.params) ts = true) :
    PySem.W.WalkO q loose XP YP l.row.toRowW d [] (fun f vs => PySem.call f vs) := by
  refine LamX.walk_ofTs (l := l) (n := 63) (k := 5 * k) (x := x) (CX := fun w => L2.CX l.prog w) (K := K) hn (by unfold sizeLine; decide) hdf hr hY (fun w mg fa h Y KX G hmg => ?_) fun w H s e s' z => ?_
  · letI : LamT := ⟨t.lamL (K w.params)⟩
    have c := C w
    have hB := B w
    obtain ⟨_, hB2⟩ := He.ba hB
    have hj : jl ∈ t.dl := List.mem_filterMap.mpr ⟨some jl, List.mem_of_getElem? hl, rfl⟩
    have hL : ∀ p ∈ t.lamL (K w.params), p ∈ LamT.L := fun p hp => hp
    obtain ⟨fd, D⟩ := def_of hL hB c KX G ok bi hj
    have T := topJ_of hL hB c KX G ok bi wk bw xk bx
    have e : fa = He.ga (K w.params) jl.name := by
      rw [hname, D.at_] at hmg
      cases hmg; rfl
    subst e
    have chk : ∀ p ∈ t.lamL (K w.params), p.2.1 ∈ ts ∧ (K w.params).lookup p.2.1 = none ∧ PySem.W.codeHdIn (K w.params) p.1 p.2.1 = true ∧ ∀ r ∈ t.lamL (K w.params), r.2.1 = p.2.1 → r.2.2 = p.2.2 := fun p hp => by
      obtain ⟨b1, b2⟩ := He.ba (List.all_eq_true.mp hB2 p hp)
      obtain ⟨b2, b3⟩ := He.ba b2
      obtain ⟨b3, b4⟩ := He.ba b3
      refine ⟨of_decide_eq_true b1, Option.isNone_iff_eq_none.mp b2, b3, fun r hr e => ?_⟩
      have z := List.all_eq_true.mp b4 r hr
      rw [decide_eq_true e, Bool.not_true, Bool.false_or] at z
      exact of_decide_eq_true z
    have pair : ∀ p ∈ (t.lamL (K w.params)).map (fun p => (p.1, p.2.1)), ∃ r ∈ t.lamL (K w.params), p = (r.1, r.2.1) := fun p hp => by
      obtain ⟨r, hr, e⟩ := List.mem_map.mp hp
      exact ⟨r, hr, e.symm⟩
    refine ⟨fd, (t.lamL (K w.params)).map (fun p => (p.1, p.2.1)), spJ (K w.params) (t.xc (K w.params)) jl.ps.length (callJ t.ds t.g k li), fun p hp => ?_, fun p hp => ?_, fun p hp => ?_, fun s u => ?_, fun H a ns hlen _ hH hS => ?_, fun base _ _ TB => ?_⟩
    · obtain ⟨r, hr, rfl⟩ := pair p hp
      exact hT w h Y _ (chk r hr).1
    · obtain ⟨r, hr, rfl⟩ := pair p hp
      exact (chk r hr).2.1
    · obtain ⟨r, hr, rfl⟩ := pair p hp
      exact PySem.W.codeHd_of_K KX (chk r hr).2.2.1
    · obtain ⟨fd', F', _⟩ := fun_at c KX G (.inl hj)
      obtain ⟨_, _, _, F2, _⟩ := D.ex
      have efd : fd' = fd := by
        obtain ⟨oc, od, dV, kV, doc, pm, an, cdv, ct, osl, e1, lk1, _⟩ := F'.ex
        obtain ⟨oc2, od2, kV2, doc2, pm2, an2, cdv2, ct2, osl2, e2, lk2, _⟩ := F2.ex
        rw [lk1] at lk2
        injection lk2 with lk3
        injection lk3 with _ _ h3 _
        injection h3
      subst efd
      have := F'.bindsA (bi jl hj) s [u] (by rw [hps]; rfl)
      rw [hps] at this
      exact this
    · obtain ⟨st, hst⟩ := law ns hlen
      rw [hps]
      refine spJ_law (fun p hp => ?_) hS hlen hst
      obtain ⟨r, hr, rfl⟩ := List.mem_map.mp hp
      exact LamX.TabS.nil (hH _ (List.mem_map.mpr ⟨r, hr, rfl⟩))
    · have := fn_okJ (P := l.prog) (base := base) T (fun p hp => TB (p.1, p.2.1) (List.mem_map.mpr ⟨p, hp, rfl⟩)) (fun p hp r hr e => (chk p hp).2.2.2 r hr e) k (j := li) (x := jl.name) (d := jl.d) (by show (t.defs.map _)[li]? = _; rw [List.getElem?_map, hl]; rfl) D
      rw [hps] at this
      rw [hps]
      exact this
  · obtain ⟨_, _, _, _, _, _, _, _, _, _, _, _, z⟩ := z
    exact z
omit [LamT] in
/-- .. of a law that makes no lambda -/
theorem walkJ {l : PySem.W.OpenLaw} {t : TopD} {k li : Nat} {q : Program} {loose : List Str} {XP : (Str → Option Value) → Heap → Prop} {YP : World → Heap → Prop} {d : DefRec} {K : Params → PySem.W.Frag} {x : Str} {jl : DJ}
    (hn : l.most = some 63) (hdf : d.params.defaults = []) (hr : Room (5 * k) callerA) (hl : t.defs[li]? = some (some jl)) (hname : d.name = jl.name) (hps : jl.ps = [x])
    (ok : ∀ j ∈ t.dl, j.ok t.ci = true) (bi : ∀ j ∈ t.dl, j.bi)
    (law : ∀ ns : List Int, ns.length ≤ 63 → ∃ st, callJ t.ds t.g k li [.pv (.list (ns.map PyData.int))] [] = .ok (.pv (.bool true)) st)
    (hY : ∀ (w : World) (h : Heap), YP w h → (K w.params).In h) (C : ∀ w : World, SaysK t w (K w.params)) (hlm : t.lm = [] := by rfl) (hwl : t.wl = [] := by rfl) (hox : t.ol = [] := by rfl) :
    PySem.W.WalkO q loose XP YP l.row.toRowW d [] (fun f vs => PySem.call f vs) := by
  refine walkJT (ts := []) hn hdf hr hl hname hps ok bi (fun p hp => ?_) (fun p hp => ?_) (fun o ho => by rw [hox] at ho; cases ho) (fun o ho => by rw [hox] at ho; cases ho) law hY (fun _ _ _ P hP => by cases hP) C fun w => ?_
  · rw [hwl] at hp; cases hp
  · rw [hwl] at hp; cases hp
  · have e : t.lamL (K w.params) = [] := by
      unfold TopD.lamL
      rw [List.filterMap_eq_nil_iff]
      intro j _
      rw [hlm, if_neg (by simp)]
    unfold TopD.lamB
    rw [e, hlm]
    simp
end J
end

section
/-! J12: where no lambda is made. -/
namespace J
instance noLam : LamT := ⟨[]⟩
end J
end

section
set_option maxRecDepth 100000
set_option maxHeartbeats 0
namespace P
open PySem PySem.Spec PyProof.Rows J
/-! the package in the small language (printed by gen.py) -/
/-- 0 is_label: value sign -/
def b_is_label : ISs := .cons (.ret (.andV (.isi (.slot 0) "str") (.andV (.chain .LtE .LtE (.con (.int 1)) (.bi .len (.slot 0)) (.con (.int 8))) (.one (.bi .all (.comp (.chain .LtE .LtE (.con (.str "a")) (.slot 1) (.con (.str "z"))) (.nm 1) (.val (.slot 0)) .none [1])))))) .nil
def d_is_label : DefJ := ⟨1, 2, b_is_label⟩
/-- 1 is_line: value -/
def b_is_line : ISs := .cons (.ife (.orV (.not (.isi (.slot 0) "tuple")) (.one (.cmp .NotEq (.bi .len (.slot 0)) (.con (.int 3))))) (.cons (.ret (.con (.bool false))) .nil) .nil) (.cons (.ret (.andV (.call 0 (.cons (.idx (.slot 0) (.con (.int 0))) .nil)) (.andV (.call 0 (.cons (.idx (.slot 0) (.con (.int 1))) .nil)) (.one (.isi (.idx (.slot 0) (.con (.int 2))) "bool"))))) .nil)
def d_is_line : DefJ := ⟨1, 1, b_is_line⟩
/-- 2 is_file: value line -/
def b_is_file : ISs := .cons (.ret (.andV (.isi (.slot 0) "tuple") (.andV (.cmp .LtE (.bi .len (.slot 0)) (.glob 0)) (.one (.bi .all (.comp (.call 1 (.cons (.slot 1) .nil)) (.nm 1) (.val (.slot 0)) .none [1])))))) .nil
def d_is_file : DefJ := ⟨1, 2, b_is_file⟩
/-- 3 form_of: word -/
def b_form_of : ISs := .cons (.ife (.cmp .In (.slot 0) (.tup (.cons (.con (.str "strike")) (.cons (.con (.str "swap")) .nil)))) (.cons (.ret (.ife (.cmp .Eq (.slot 0) (.con (.str "strike"))) (.con (.str "k")) (.con (.str "kvv")))) .nil) .nil) (.cons (.ret (.gget 0 (.slot 0))) .nil)
def d_form_of : DefJ := ⟨1, 1, b_form_of⟩
def l1_is_step : ISs := .cons (.ife (.orV (.andV (.cmp .Eq (.slot 2) (.con (.str "p"))) (.one (.orV (.not (.isi (.slot 3) "str")) (.one (.cmp .NotIn (.slot 3) (.glob 3)))))) (.one (.andV (.cmp .NotEq (.slot 2) (.con (.str "p"))) (.one (.not (.call 0 (.cons (.slot 3) .nil))))))) (.cons (.ret (.con (.bool false))) .nil) .nil) .nil
/-- 4 is_step: value form sort part -/
def b_is_step : ISs := .cons (.ife (.orV (.not (.isi (.slot 0) "tuple")) (.orV (.cmp .Eq (.slot 0) (.tup .nil)) (.one (.not (.isi (.idx (.slot 0) (.con (.int 0))) "str"))))) (.cons (.ret (.con (.bool false))) .nil) .nil) (.cons (.set 1 (.call 3 (.cons (.idx (.slot 0) (.con (.int 0))) .nil))) (.cons (.ife (.orV (.isN false (.slot 1)) (.one (.cmp .NotEq (.bi .len (.slot 0)) (.bin .Add (.con (.int 1)) (.bi .len (.slot 1)))))) (.cons (.ret (.con (.bool false))) .nil) .nil) (.cons (.for_ (.tp [2, 3]) (.zip (.slot 1) (.slice (.slot 0) (.some (.con (.int 1))) .none)) l1_is_step) (.cons (.ret (.orV (.cmp .NotEq (.idx (.slot 0) (.con (.int 0))) (.con (.str "swap"))) (.one (.cmp .NotEq (.idx (.slot 0) (.con (.int 2))) (.idx (.slot 0) (.con (.int 3))))))) .nil))))
def d_is_step : DefJ := ⟨1, 4, b_is_step⟩
def l1_named_by : ISs := .cons (.ife (.andV (.cmp .Eq (.idx (.slot 3) (.con (.int 1))) (.slot 1)) (.one (.cmp .In (.idx (.slot 3) (.con (.int 0))) (.tup (.cons (.con (.str "set")) (.cons (.con (.str "add")) (.cons (.con (.str "only")) (.cons (.con (.str "swap")) .nil)))))))) (.cons (.set 2 (.bin .Add (.slot 2) (.bi .lst (.ife (.cmp .Eq (.idx (.slot 3) (.con (.int 0))) (.con (.str "swap"))) (.slice (.slot 3) (.some (.con (.int 2))) (.some (.con (.int 4)))) (.slice (.slot 3) (.some (.con (.int 2))) (.some (.con (.int 3)))))))) .nil) .nil) .nil
/-- 5 named_by: steps key found step -/
def b_named_by : ISs := .cons (.set 2 (.lst .nil)) (.cons (.for_ (.nm 3) (.val (.slot 0)) l1_named_by) (.cons (.ret (.srt (.slot 2))) .nil))
def d_named_by : DefJ := ⟨2, 4, b_named_by⟩
/-- 6 keys_of: steps step -/
def b_keys_of : ISs := .cons (.ret (.srt (.comp (.idx (.slot 1) (.con (.int 1))) (.nm 1) (.val (.slot 0)) .none [1]))) .nil
def d_keys_of : DefJ := ⟨1, 2, b_keys_of⟩
/-- 7 is_script: value step key -/
def b_is_script : ISs := .cons (.ife (.orV (.not (.isi (.slot 0) "tuple")) (.orV (.cmp .Gt (.bi .len (.slot 0)) (.glob 1)) (.one (.not (.bi .all (.comp (.call 4 (.cons (.slot 1) .nil)) (.nm 1) (.val (.slot 0)) .none [1])))))) (.cons (.ret (.con (.bool false))) .nil) .nil) (.cons (.ret (.bi .all (.comp (.cmp .LtE (.bi .len (.call 5 (.cons (.slot 0) (.cons (.slot 2) .nil)))) (.glob 2)) (.nm 2) (.val (.call 6 (.cons (.slot 0) .nil))) .none [2]))) .nil)
def d_is_script : DefJ := ⟨1, 3, b_is_script⟩
/-- 8 need_script: script -/
def b_need_script : ISs := .cons (.ife (.not (.call 7 (.cons (.slot 0) .nil))) (.cons (.raise 0 "not a script") .nil) .nil) .nil
def d_need_script : DefJ := ⟨1, 1, b_need_script⟩
/-- 9 need_file: file -/
def b_need_file : ISs := .cons (.ife (.not (.call 2 (.cons (.slot 0) .nil))) (.cons (.raise 1 "not a file") .nil) .nil) .nil
def d_need_file : DefJ := ⟨1, 1, b_need_file⟩
/-- 10 need_key: key -/
def b_need_key : ISs := .cons (.ife (.not (.call 0 (.cons (.slot 0) .nil))) (.cons (.raise 2 "not a key") .nil) .nil) .nil
def d_need_key : DefJ := ⟨1, 1, b_need_key⟩
/-- 11 script_keys: script -/
def b_script_keys : ISs := .cons (.drop (.call 8 (.cons (.slot 0) .nil))) (.cons (.ret (.call 6 (.cons (.slot 0) .nil))) .nil)
def d_script_keys : DefJ := ⟨1, 1, b_script_keys⟩
/-- 12 named_values: script key -/
def b_named_values : ISs := .cons (.drop (.call 8 (.cons (.slot 0) .nil))) (.cons (.drop (.call 10 (.cons (.slot 1) .nil))) (.cons (.ret (.call 5 (.cons (.slot 0) (.cons (.slot 1) .nil)))) .nil))
def d_named_values : DefJ := ⟨2, 2, b_named_values⟩
/-- 13 spots: lines key on at line -/
def b_spots : ISs := .cons (.ret (.comp (.slot 3) (.tp [3, 4]) (.enum (.slot 0)) (.some (.andV (.cmp .Eq (.idx (.slot 4) (.con (.int 0))) (.slot 1)) (.one (.cmp .Eq (.idx (.slot 4) (.con (.int 2))) (.slot 2))))) [3, 4])) .nil
def d_spots : DefJ := ⟨3, 5, b_spots⟩
/-- 14 without: lines gone at line -/
def b_without : ISs := .cons (.ret (.comp (.slot 3) (.tp [2, 3]) (.enum (.slot 0)) (.some (.cmp .NotIn (.slot 2) (.slot 1))) [2, 3])) .nil
def d_without : DefJ := ⟨2, 4, b_without⟩
/-- 15 with_line: lines at line -/
def b_with_line : ISs := .cons (.ret (.bin .Add (.bin .Add (.slice (.slot 0) .none (.some (.slot 1))) (.lst (.cons (.slot 2) .nil))) (.slice (.slot 0) (.some (.bin .Add (.slot 1) (.con (.int 1)))) .none))) .nil
def d_with_line : DefJ := ⟨3, 3, b_with_line⟩
/-- 16 after_set: lines key value some -/
def b_after_set : ISs := .cons (.set 3 (.orV (.call 13 (.cons (.slot 0) (.cons (.slot 1) (.cons (.con (.bool true)) .nil)))) (.one (.call 13 (.cons (.slot 0) (.cons (.slot 1) (.cons (.con (.bool false)) .nil))))))) (.cons (.ife (.cmp .Eq (.slot 3) (.lst .nil)) (.cons (.ret (.bin .Add (.slot 0) (.lst (.cons (.tup (.cons (.slot 1) (.cons (.slot 2) (.cons (.con (.bool true)) .nil)))) .nil)))) .nil) .nil) (.cons (.ret (.call 15 (.cons (.slot 0) (.cons (.idx (.slot 3) (.neg (.con (.int 1)))) (.cons (.tup (.cons (.slot 1) (.cons (.slot 2) (.cons (.con (.bool true)) .nil)))) .nil))))) .nil))
def d_after_set : DefJ := ⟨3, 4, b_after_set⟩
/-- 17 after_only: lines key value some -/
def b_after_only : ISs := .cons (.set 3 (.call 13 (.cons (.slot 0) (.cons (.slot 1) (.cons (.con (.bool true)) .nil))))) (.cons (.ife (.cmp .Eq (.slot 3) (.lst .nil)) (.cons (.ret (.bin .Add (.slot 0) (.lst (.cons (.tup (.cons (.slot 1) (.cons (.slot 2) (.cons (.con (.bool true)) .nil)))) .nil)))) .nil) .nil) (.cons (.ret (.call 14 (.cons (.call 15 (.cons (.slot 0) (.cons (.idx (.slot 3) (.con (.int 0))) (.cons (.tup (.cons (.slot 1) (.cons (.slot 2) (.cons (.con (.bool true)) .nil)))) .nil)))) (.cons (.slice (.slot 3) (.some (.con (.int 1))) .none) .nil)))) .nil))
def d_after_only : DefJ := ⟨3, 4, b_after_only⟩
/-- 18 after_add: lines key value place line -/
def b_after_add : ISs := .cons (.set 4 (.tup (.cons (.slot 1) (.cons (.slot 2) (.cons (.con (.bool true)) .nil))))) (.cons (.ife (.cmp .In (.slot 4) (.slot 0)) (.cons (.ret (.slot 0)) .nil) .nil) (.cons (.ret (.ife (.cmp .Eq (.slot 3) (.con (.str "top"))) (.bin .Add (.lst (.cons (.slot 4) .nil)) (.slot 0)) (.bin .Add (.slot 0) (.lst (.cons (.slot 4) .nil))))) .nil))
def d_after_add : DefJ := ⟨4, 5, b_after_add⟩
/-- 19 after_step: lines step word key some line -/
def b_after_step : ISs := .cons (.setT (.tp [2, 3]) (.tup (.cons (.idx (.slot 1) (.con (.int 0))) (.cons (.idx (.slot 1) (.con (.int 1))) .nil)))) (.cons (.set 4 (.call 13 (.cons (.slot 0) (.cons (.slot 3) (.cons (.con (.bool true)) .nil))))) (.cons (.ife (.cmp .Eq (.slot 2) (.con (.str "set"))) (.cons (.ret (.call 16 (.cons (.slot 0) (.cons (.slot 3) (.cons (.idx (.slot 1) (.con (.int 2))) .nil))))) .nil) .nil) (.cons (.ife (.cmp .Eq (.slot 2) (.con (.str "only"))) (.cons (.ret (.call 17 (.cons (.slot 0) (.cons (.slot 3) (.cons (.idx (.slot 1) (.con (.int 2))) .nil))))) .nil) .nil) (.cons (.ife (.cmp .Eq (.slot 2) (.con (.str "add"))) (.cons (.ret (.call 18 (.cons (.slot 0) (.cons (.slot 3) (.cons (.idx (.slot 1) (.con (.int 2))) (.cons (.idx (.slot 1) (.con (.int 3))) .nil)))))) .nil) .nil) (.cons (.ife (.cmp .Eq (.slot 2) (.con (.str "first"))) (.cons (.ret (.call 14 (.cons (.slot 0) (.cons (.slice (.slot 4) (.some (.con (.int 1))) .none) .nil)))) .nil) .nil) (.cons (.ife (.cmp .Eq (.slot 2) (.con (.str "last"))) (.cons (.ret (.call 14 (.cons (.slot 0) (.cons (.slice (.slot 4) .none (.some (.neg (.con (.int 1))))) .nil)))) .nil) .nil) (.cons (.ife (.cmp .Eq (.slot 2) (.con (.str "drop"))) (.cons (.ret (.call 14 (.cons (.slot 0) (.cons (.slot 4) .nil)))) .nil) .nil) (.cons (.ife (.cmp .Eq (.slot 2) (.con (.str "purge"))) (.cons (.ret (.call 14 (.cons (.slot 0) (.cons (.bin .Add (.slot 4) (.call 13 (.cons (.slot 0) (.cons (.slot 3) (.cons (.con (.bool false)) .nil))))) .nil)))) .nil) .nil) (.cons (.ife (.cmp .Eq (.slot 2) (.con (.str "strike"))) (.cons (.ret (.comp (.tup (.cons (.idx (.slot 5) (.con (.int 0))) (.cons (.idx (.slot 5) (.con (.int 1))) (.cons (.andV (.idx (.slot 5) (.con (.int 2))) (.one (.cmp .NotEq (.idx (.slot 5) (.con (.int 0))) (.slot 3)))) .nil)))) (.nm 5) (.val (.slot 0)) .none [5])) .nil) .nil) (.cons (.ret (.comp (.ife (.cmp .Eq (.slot 5) (.tup (.cons (.slot 3) (.cons (.idx (.slot 1) (.con (.int 2))) (.cons (.con (.bool true)) .nil))))) (.tup (.cons (.slot 3) (.cons (.idx (.slot 1) (.con (.int 3))) (.cons (.con (.bool true)) .nil)))) (.slot 5)) (.nm 5) (.val (.slot 0)) .none [5])) .nil))))))))))
def d_after_step : DefJ := ⟨2, 6, b_after_step⟩
def l1_done : ISs := .cons (.set 1 (.call 19 (.cons (.slot 1) (.cons (.slot 2) .nil)))) .nil
/-- 20 done: script lines step -/
def b_done : ISs := .cons (.for_ (.nm 2) (.val (.slot 0)) l1_done) (.cons (.ret (.slot 1)) .nil)
def d_done : DefJ := ⟨2, 3, b_done⟩
/-- 21 run: script file -/
def b_run : ISs := .cons (.drop (.call 8 (.cons (.slot 0) .nil))) (.cons (.drop (.call 9 (.cons (.slot 1) .nil))) (.cons (.ret (.bi .tup (.call 20 (.cons (.slot 0) (.cons (.bi .lst (.slot 1)) .nil))))) .nil))
def d_run : DefJ := ⟨2, 2, b_run⟩
/-- 22 view_of: lines key line -/
def b_view_of : ISs := .cons (.ret (.tup (.cons (.bi .tup (.comp (.idx (.slot 2) (.con (.int 1))) (.nm 2) (.val (.slot 0)) (.some (.andV (.cmp .Eq (.idx (.slot 2) (.con (.int 0))) (.slot 1)) (.one (.idx (.slot 2) (.con (.int 2)))))) [2])) (.cons (.bi .len (.call 13 (.cons (.slot 0) (.cons (.slot 1) (.cons (.con (.bool false)) .nil))))) .nil)))) .nil
def d_view_of : DefJ := ⟨2, 3, b_view_of⟩
/-- 23 view: file key -/
def b_view : ISs := .cons (.drop (.call 9 (.cons (.slot 0) .nil))) (.cons (.drop (.call 10 (.cons (.slot 1) .nil))) (.cons (.ret (.call 22 (.cons (.slot 0) (.cons (.slot 1) .nil)))) .nil))
def d_view : DefJ := ⟨2, 2, b_view⟩
/-- 24 need_reader: reader -/
def b_need_reader : ISs := .cons (.ife (.orV (.not (.isi (.slot 0) "str")) (.one (.cmp .NotIn (.slot 0) (.glob 4)))) (.cons (.raise 3 "not a reader") .nil) .nil) .nil
def d_need_reader : DefJ := ⟨1, 1, b_need_reader⟩
/-- 25 read_values: values reader -/
def b_read_values : ISs := .cons (.ife (.cmp .Eq (.slot 1) (.con (.str "all"))) (.cons (.ret (.slot 0)) .nil) .nil) (.cons (.ife (.cmp .Eq (.slot 0) (.tup .nil)) (.cons (.ret (.con .none)) .nil) .nil) (.cons (.ret (.ife (.cmp .Eq (.slot 1) (.con (.str "first"))) (.idx (.slot 0) (.con (.int 0))) (.idx (.slot 0) (.neg (.con (.int 1)))))) .nil))
def d_read_values : DefJ := ⟨2, 2, b_read_values⟩
/-- 26 read: file key reader -/
def b_read : ISs := .cons (.drop (.call 9 (.cons (.slot 0) .nil))) (.cons (.drop (.call 10 (.cons (.slot 1) .nil))) (.cons (.drop (.call 24 (.cons (.slot 2) .nil))) (.cons (.ret (.call 25 (.cons (.idx (.call 22 (.cons (.slot 0) (.cons (.slot 1) .nil))) (.con (.int 0))) (.cons (.slot 2) .nil)))) .nil)))
def d_read : DefJ := ⟨3, 3, b_read⟩
def l1_file_of : ISs := .cons (.set 1 (.bin .Add (.bin .Add (.slot 1) (.bin .Mult (.tup (.cons (.tup (.cons (.slot 2) (.cons (.con (.str "x")) (.cons (.con (.bool false)) .nil)))) .nil)) (.idx (.slot 3) (.con (.int 1))))) (.bi .tup (.comp (.tup (.cons (.slot 2) (.cons (.slot 4) (.cons (.con (.bool true)) .nil)))) (.nm 4) (.val (.idx (.slot 3) (.con (.int 0)))) .none [4])))) .nil
/-- 27 file_of: views found key seen value -/
def b_file_of : ISs := .cons (.set 1 (.tup .nil)) (.cons (.for_ (.tp [2, 3]) (.val (.slot 0)) l1_file_of) (.cons (.ret (.slot 1)) .nil))
def d_file_of : DefJ := ⟨1, 5, b_file_of⟩
def l1_seen_after : ISs := .cons (.ife (.cmp .Eq (.idx (.slot 5) (.con (.int 1))) (.slot 1)) (.cons (.setT (.tp [3, 4]) (.call 29 (.cons (.slot 5) (.cons (.slot 3) (.cons (.slot 4) .nil))))) .nil) .nil) .nil
/-- 28 seen_after: steps key seen values struck step -/
def b_seen_after : ISs := .cons (.setT (.tp [3, 4]) (.slot 2)) (.cons (.for_ (.nm 5) (.val (.slot 0)) l1_seen_after) (.cons (.ret (.tup (.cons (.slot 3) (.cons (.slot 4) .nil)))) .nil))
def d_seen_after : DefJ := ⟨3, 6, b_seen_after⟩
/-- 29 seen_step: step values struck word value -/
def b_seen_step : ISs := .cons (.set 3 (.idx (.slot 0) (.con (.int 0)))) (.cons (.ife (.cmp .Eq (.slot 3) (.con (.str "set"))) (.cons (.ret (.tup (.cons (.bin .Add (.slice (.slot 1) .none (.some (.neg (.con (.int 1))))) (.tup (.cons (.idx (.slot 0) (.con (.int 2))) .nil))) (.cons (.bin .Sub (.slot 2) (.bi .int (.andV (.cmp .Eq (.slot 1) (.tup .nil)) (.one (.cmp .Gt (.slot 2) (.con (.int 0))))))) .nil)))) .nil) .nil) (.cons (.ife (.cmp .Eq (.slot 3) (.con (.str "only"))) (.cons (.ret (.tup (.cons (.tup (.cons (.idx (.slot 0) (.con (.int 2))) .nil)) (.cons (.slot 2) .nil)))) .nil) .nil) (.cons (.ife (.cmp .Eq (.slot 3) (.con (.str "add"))) (.cons (.ife (.cmp .In (.idx (.slot 0) (.con (.int 2))) (.slot 1)) (.cons (.ret (.tup (.cons (.slot 1) (.cons (.slot 2) .nil)))) .nil) .nil) (.cons (.ret (.tup (.cons (.ife (.cmp .Eq (.idx (.slot 0) (.con (.int 3))) (.con (.str "top"))) (.bin .Add (.tup (.cons (.idx (.slot 0) (.con (.int 2))) .nil)) (.slot 1)) (.bin .Add (.slot 1) (.tup (.cons (.idx (.slot 0) (.con (.int 2))) .nil)))) (.cons (.slot 2) .nil)))) .nil)) .nil) (.cons (.ife (.orV (.cmp .Eq (.slot 3) (.con (.str "first"))) (.one (.cmp .Eq (.slot 3) (.con (.str "last"))))) (.cons (.ret (.tup (.cons (.ife (.cmp .Eq (.slot 3) (.con (.str "first"))) (.slice (.slot 1) .none (.some (.con (.int 1)))) (.slice (.slot 1) (.some (.neg (.con (.int 1)))) .none)) (.cons (.slot 2) .nil)))) .nil) .nil) (.cons (.ife (.cmp .Eq (.slot 3) (.con (.str "drop"))) (.cons (.ret (.tup (.cons (.tup .nil) (.cons (.slot 2) .nil)))) .nil) .nil) (.cons (.ife (.cmp .Eq (.slot 3) (.con (.str "purge"))) (.cons (.ret (.tup (.cons (.tup .nil) (.cons (.con (.int 0)) .nil)))) .nil) .nil) (.cons (.ife (.cmp .Eq (.slot 3) (.con (.str "strike"))) (.cons (.ret (.tup (.cons (.tup .nil) (.cons (.bin .Add (.slot 2) (.bi .len (.slot 1))) .nil)))) .nil) .nil) (.cons (.ret (.tup (.cons (.bi .tup (.comp (.ife (.cmp .Eq (.slot 4) (.idx (.slot 0) (.con (.int 2)))) (.idx (.slot 0) (.con (.int 3))) (.slot 4)) (.nm 4) (.val (.slot 1)) .none [4])) (.cons (.slot 2) .nil)))) .nil))))))))
def d_seen_step : DefJ := ⟨3, 5, b_seen_step⟩
def l1_strangers : ISs := .cons (.set 4 (.bin .Add (.idx (.glob 5) (.bin .Sub (.con (.int 25)) (.slot 2))) (.slot 3))) (.cons (.ife (.andV (.cmp .NotIn (.slot 4) (.slot 0)) (.one (.cmp .Lt (.lenR (.slot 1)) (.con (.int 3))))) (.cons (.app (.slot 1) (.slot 4)) .nil) .nil) .nil)
def l2_strangers : ISs := .cons (.for_ (.nm 3) (.val (.tup (.cons (.con (.str "")) (.cons (.con (.str "a")) (.cons (.con (.str "b")) .nil))))) l1_strangers) (.cons (.aug 2 (.con (.int 1))) .nil)
/-- 30 strangers: named found at tail word -/
def b_strangers : ISs := .cons (.par [1, 2] (.cons (.mlst .nil) (.cons (.con (.int 0)) .nil))) (.cons (.while_ (.cmp .Lt (.lenR (.slot 1)) (.con (.int 3))) l2_strangers) (.cons (.ret (.frz (.slot 1))) .nil))
def d_strangers : DefJ := ⟨1, 5, b_strangers⟩
def l1_middles : ISs := .cons (.set 1 (.bin .Add (.slot 1) (.comp (.bin .Add (.slot 3) (.tup (.cons (.slot 2) .nil))) (.nm 3) (.val (.slot 1)) .none [3]))) .nil
/-- 31 middles: values rows value row -/
def b_middles : ISs := .cons (.set 1 (.lst (.cons (.tup .nil) .nil))) (.cons (.for_ (.nm 2) (.val (.slot 0)) l1_middles) (.cons (.ret (.slot 1)) .nil))
def d_middles : DefJ := ⟨1, 4, b_middles⟩
def l1_few_values : ISs := .cons (.set 5 (.bin .Add (.slot 5) (.comp (.bin .Add (.bin .Add (.tup (.cons (.slot 6) .nil)) (.slot 9)) (.tup (.cons (.slot 7) .nil))) (.nm 9) (.val (.slot 4)) .none [9]))) .nil
def l2_few_values : ISs := .cons (.for_ (.nm 7) (.val (.slot 3)) l1_few_values) .nil
/-- 32 few_values: named odd firsts lasts between rows one other value middle -/
def b_few_values : ISs := .cons (.set 1 (.call 30 (.cons (.slot 0) .nil))) (.cons (.par [2, 3, 4] (.cons (.bin .Add (.slot 0) (.slice (.slot 1) .none (.some (.con (.int 1))))) (.cons (.bin .Add (.slot 0) (.slice (.slot 1) (.some (.con (.int 1))) (.some (.con (.int 2))))) (.cons (.call 31 (.cons (.srtD (.bin .Add (.slot 0) (.slice (.slot 1) (.some (.con (.int 2))) .none))) .nil)) .nil)))) (.cons (.set 5 (.bin .Add (.lst (.cons (.tup .nil) .nil)) (.comp (.tup (.cons (.slot 8) .nil)) (.nm 8) (.val (.slot 2)) .none [8]))) (.cons (.for_ (.nm 6) (.val (.slot 2)) l2_few_values) (.cons (.ret (.slot 5)) .nil))))
def d_few_values : DefJ := ⟨1, 10, b_few_values⟩
def l1_few_views : ISs := .cons (.set 3 (.bin .Add (.slot 3) (.call 5 (.cons (.slot 4) (.cons (.slot 1) .nil))))) .nil
/-- 33 few_views: scripts key struck named steps rows values many -/
def b_few_views : ISs := .cons (.set 3 (.lst .nil)) (.cons (.for_ (.nm 4) (.val (.slot 0)) l1_few_views) (.cons (.set 5 (.comp2 (.tup (.cons (.slot 6) (.cons (.slot 7) .nil))) (.nm 6) (.val (.call 32 (.cons (.srt (.slot 3)) .nil))) (.nm 7) (.val (.slot 2)) [6, 7])) (.cons (.ret (.srtK 34 (.slot 5))) .nil)))
def d_few_views : DefJ := ⟨3, 8, b_few_views⟩
/-- 34 size_of: seen -/
def b_size_of : ISs := .cons (.ret (.bin .Add (.bi .len (.idx (.slot 0) (.con (.int 0)))) (.idx (.slot 0) (.con (.int 1))))) .nil
def d_size_of : DefJ := ⟨1, 1, b_size_of⟩
/-- 35 struck_for: scripts takes steps step -/
def b_struck_for : ISs := .cons (.set 1 (.bi .sum (.comp (.bi .len (.comp (.slot 3) (.nm 3) (.val (.slot 2)) (.some (.cmp .Eq (.idx (.slot 3) (.con (.int 0))) (.con (.str "set")))) [3])) (.nm 2) (.val (.slot 0)) .none [2]))) (.cons (.ret (.lrng (.bin .Add (.slot 1) (.con (.int 2))))) .nil)
def d_struck_for : DefJ := ⟨1, 4, b_struck_for⟩
def l1_all_keys : ISs := .cons (.set 1 (.bin .Add (.slot 1) (.call 6 (.cons (.slot 2) .nil)))) .nil
/-- 36 all_keys: scripts found steps -/
def b_all_keys : ISs := .cons (.set 1 (.lst .nil)) (.cons (.for_ (.nm 2) (.val (.slot 0)) l1_all_keys) (.cons (.ret (.srt (.slot 1))) .nil))
def d_all_keys : DefJ := ⟨1, 3, b_all_keys⟩
def l1_parting_view : ISs := .cons (.ife (.orV (.isN false (.slot 3)) (.one (.cmp .Lt (.call 34 (.cons (.slot 5) .nil)) (.call 34 (.cons (.idx (.slot 3) (.con (.int 1))) .nil))))) (.cons (.ife (.cmp .NotEq (.call 38 (.cons (.slot 0) (.cons (.slot 4) (.cons (.slot 5) (.cons (.slot 2) .nil))))) (.call 38 (.cons (.slot 1) (.cons (.slot 4) (.cons (.slot 5) (.cons (.slot 2) .nil)))))) (.cons (.set 3 (.tup (.cons (.slot 4) (.cons (.slot 5) .nil)))) .nil) .nil) .nil) .nil) .nil
def l2_parting_view : ISs := .cons (.for_ (.nm 5) (.val (.call 33 (.cons (.tup (.cons (.slot 0) (.cons (.slot 1) .nil))) (.cons (.slot 4) (.cons (.call 35 (.cons (.tup (.cons (.slot 0) (.cons (.slot 1) .nil))) .nil)) .nil))))) l1_parting_view) .nil
/-- 37 parting_view: one other reader best key seen -/
def b_parting_view : ISs := .cons (.set 3 (.con .none)) (.cons (.for_ (.nm 4) (.val (.call 36 (.cons (.tup (.cons (.slot 0) (.cons (.slot 1) .nil))) .nil))) l2_parting_view) (.cons (.ret (.slot 3)) .nil))
def d_parting_view : DefJ := ⟨3, 6, b_parting_view⟩
/-- 38 taken: steps key seen reader later -/
def b_taken : ISs := .cons (.set 4 (.call 28 (.cons (.slot 0) (.cons (.slot 1) (.cons (.slot 2) .nil))))) (.cons (.ret (.ife (.isN false (.slot 3)) (.slot 4) (.call 25 (.cons (.idx (.slot 4) (.con (.int 0))) (.cons (.slot 3) .nil))))) .nil)
def d_taken : DefJ := ⟨4, 5, b_taken⟩
/-- 39 are_alike: one other -/
def b_are_alike : ISs := .cons (.ret (.isN false (.call 37 (.cons (.slot 0) (.cons (.slot 1) (.cons (.con .none) .nil)))))) .nil
def d_are_alike : DefJ := ⟨2, 2, b_are_alike⟩
/-- 40 alike: one other -/
def b_alike : ISs := .cons (.drop (.call 8 (.cons (.slot 0) .nil))) (.cons (.drop (.call 8 (.cons (.slot 1) .nil))) (.cons (.ret (.call 39 (.cons (.slot 0) (.cons (.slot 1) .nil)))) .nil))
def d_alike : DefJ := ⟨2, 2, b_alike⟩
/-- 41 parting_file: one other found -/
def b_parting_file : ISs := .cons (.drop (.call 8 (.cons (.slot 0) .nil))) (.cons (.drop (.call 8 (.cons (.slot 1) .nil))) (.cons (.set 2 (.call 37 (.cons (.slot 0) (.cons (.slot 1) (.cons (.con .none) .nil))))) (.cons (.ret (.ife (.isN false (.slot 2)) (.con .none) (.call 27 (.cons (.lst (.cons (.slot 2) .nil)) .nil)))) .nil)))
def d_parting_file : DefJ := ⟨2, 3, b_parting_file⟩
/-- 42 alike_for: one other reader -/
def b_alike_for : ISs := .cons (.drop (.call 8 (.cons (.slot 0) .nil))) (.cons (.drop (.call 8 (.cons (.slot 1) .nil))) (.cons (.drop (.call 24 (.cons (.slot 2) .nil))) (.cons (.ret (.isN false (.call 37 (.cons (.slot 0) (.cons (.slot 1) (.cons (.slot 2) .nil)))))) .nil)))
def d_alike_for : DefJ := ⟨3, 3, b_alike_for⟩
/-- 43 needless: script at -/
def b_needless : ISs := .cons (.drop (.call 8 (.cons (.slot 0) .nil))) (.cons (.ret (.comp (.slot 1) (.nm 1) (.rng (.bi .len (.slot 0))) (.some (.call 39 (.cons (.slot 0) (.cons (.bin .Add (.slice (.slot 0) .none (.some (.slot 1))) (.slice (.slot 0) (.some (.bin .Add (.slot 1) (.con (.int 1)))) .none)) .nil)))) [1])) .nil)
def d_needless : DefJ := ⟨1, 2, b_needless⟩
/-- 44 either_order: one other -/
def b_either_order : ISs := .cons (.drop (.call 8 (.cons (.slot 0) .nil))) (.cons (.drop (.call 8 (.cons (.slot 1) .nil))) (.cons (.ife (.not (.call 7 (.cons (.bin .Add (.slot 0) (.slot 1)) .nil))) (.cons (.raisx 4 "limit" (.glob 1)) .nil) .nil) (.cons (.ret (.call 39 (.cons (.bin .Add (.slot 0) (.slot 1)) (.cons (.bin .Add (.slot 1) (.slot 0)) .nil)))) .nil)))
def d_either_order : DefJ := ⟨2, 2, b_either_order⟩
def l1_least_common : ISs := .cons (.aug 2 (.slot 0)) .nil
/-- 46 least_common: one other many -/
def b_least_common : ISs := .cons (.set 2 (.slot 0)) (.cons (.while_ (.cmp .NotEq (.bin .Mod (.slot 2) (.slot 1)) (.con (.int 0))) l1_least_common) (.cons (.ret (.slot 2)) .nil))
def d_least_common : DefJ := ⟨2, 3, b_least_common⟩
/-- 48 fate: script file -/
def b_fate : ISs := .cons (.drop (.call 8 (.cons (.slot 0) .nil))) (.cons (.drop (.call 9 (.cons (.slot 1) .nil))) (.cons (.ret (.call 47 (.cons (.slot 0) (.cons (.bi .lst (.slot 1)) .nil)))) .nil))
def d_fate : DefJ := ⟨2, 2, b_fate⟩
/-- 53 lines_in: row key seen -/
def b_lines_in : ISs := .cons (.ret (.bi .sum (.comp (.call 34 (.cons (.slot 2) .nil)) (.tp [1, 2]) (.val (.slot 0)) .none [1, 2]))) .nil
def d_lines_in : DefJ := ⟨1, 3, b_lines_in⟩
/-- 54 fates: script word -/
def b_fates : ISs := .cons (.drop (.call 8 (.cons (.slot 0) .nil))) (.cons (.ret (.comp (.slot 1) (.nm 1) (.val (.glob 7)) (.some (.isN true (.call 52 (.cons (.slot 0) (.cons (.slot 1) .nil))))) [1])) .nil)
def d_fates : DefJ := ⟨1, 2, b_fates⟩
/-- 55 need_fate: word -/
def b_need_fate : ISs := .cons (.ife (.orV (.not (.isi (.slot 0) "str")) (.one (.cmp .NotIn (.slot 0) (.glob 7)))) (.cons (.raise 5 "not a fate") .nil) .nil) .nil
def d_need_fate : DefJ := ⟨1, 1, b_need_fate⟩
/-- 56 file_with: script word found -/
def b_file_with : ISs := .cons (.drop (.call 8 (.cons (.slot 0) .nil))) (.cons (.drop (.call 55 (.cons (.slot 1) .nil))) (.cons (.set 2 (.call 52 (.cons (.slot 0) (.cons (.slot 1) .nil)))) (.cons (.ret (.ife (.isN false (.slot 2)) (.con .none) (.call 27 (.cons (.slot 2) .nil)))) .nil)))
def d_file_with : DefJ := ⟨2, 3, b_file_with⟩
/-- 57 settled: script -/
def b_settled : ISs := .cons (.drop (.call 8 (.cons (.slot 0) .nil))) (.cons (.ret (.call 58 (.cons (.slot 0) .nil))) .nil)
def d_settled : DefJ := ⟨1, 1, b_settled⟩
/-- 58 is_settled: steps -/
def b_is_settled : ISs := .cons (.ret (.call 39 (.cons (.bin .Add (.slot 0) (.slot 0)) (.cons (.slot 0) .nil)))) .nil
def d_is_settled : DefJ := ⟨1, 1, b_is_settled⟩
def l1_rows_by_size : ISs := .cons (.set 1 (.bin .Add (.slot 1) (.comp (.bin .Add (.slot 3) (.tup (.cons (.slot 2) .nil))) (.nm 3) (.val (.slot 1)) .none [3]))) .nil
/-- 60 rows_by_size: many rows at row -/
def b_rows_by_size : ISs := .cons (.set 1 (.lst (.cons (.tup .nil) .nil))) (.cons (.for_ (.nm 2) (.rng (.slot 0)) l1_rows_by_size) (.cons (.ret (.srtL (.slot 1))) .nil))
def d_rows_by_size : DefJ := ⟨1, 4, b_rows_by_size⟩
def l1_least_out : ISs := .cons (.ife (.not (.look 1 (.bi .any (.comp (.bi .all (.comp (.cmp .In (.slot 4) (.slot 2)) (.nm 4) (.val (.slot 3)) .none [4])) (.nm 3) (.val (.slot 1)) .none [3])))) (.cons (.ife (.call 58 (.cons (.bi .tup (.comp (.slot 5) (.tp [4, 5]) (.enum (.slot 0)) (.some (.cmp .NotIn (.slot 4) (.slot 2))) [4, 5])) .nil)) (.cons (.app (.slot 1) (.slot 2)) .nil) .nil) .nil) .nil) .nil
/-- 61 least_out: script found row least at step -/
def b_least_out : ISs := .cons (.drop (.call 8 (.cons (.slot 0) .nil))) (.cons (.set 1 (.mlst .nil)) (.cons (.for_ (.nm 2) (.val (.call 60 (.cons (.bi .len (.slot 0)) .nil))) l1_least_out) (.cons (.ret (.srtD (.frz (.slot 1)))) .nil)))
def d_least_out : DefJ := ⟨1, 6, b_least_out⟩
/-- 62 need_value: value -/
def b_need_value : ISs := .cons (.ife (.not (.call 0 (.cons (.slot 0) .nil))) (.cons (.raise 6 "not a value") .nil) .nil) .nil
def d_need_value : DefJ := ⟨1, 1, b_need_value⟩
def l1_failing_view : ISs := .cons (.ife (.cmp .NotEq (.call 25 (.cons (.idx (.call 28 (.cons (.slot 0) (.cons (.slot 1) (.cons (.slot 5) .nil)))) (.con (.int 0))) (.cons (.slot 3) .nil))) (.slot 4)) (.cons (.ret (.slot 5)) .nil) .nil) .nil
/-- 63 failing_view: steps key value reader wanted seen -/
def b_failing_view : ISs := .cons (.set 4 (.ife (.cmp .Eq (.slot 3) (.con (.str "all"))) (.tup (.cons (.slot 2) .nil)) (.slot 2))) (.cons (.for_ (.nm 5) (.val (.call 33 (.cons (.tup (.cons (.slot 0) (.cons (.tup (.cons (.tup (.cons (.con (.str "set")) (.cons (.slot 1) (.cons (.slot 2) .nil)))) .nil)) .nil))) (.cons (.slot 1) (.cons (.call 35 (.cons (.tup (.cons (.slot 0) .nil)) .nil)) .nil))))) l1_failing_view) (.cons (.ret (.con .none)) .nil))
def d_failing_view : DefJ := ⟨4, 6, b_failing_view⟩
/-- 64 check_wish: script key value reader -/
def b_check_wish : ISs := .cons (.drop (.call 8 (.cons (.slot 0) .nil))) (.cons (.drop (.call 10 (.cons (.slot 1) .nil))) (.cons (.drop (.call 62 (.cons (.slot 2) .nil))) (.cons (.drop (.call 24 (.cons (.slot 3) .nil))) .nil)))
def d_check_wish : DefJ := ⟨4, 4, b_check_wish⟩
/-- 65 sees: script key value reader -/
def b_sees : ISs := .cons (.drop (.call 64 (.cons (.slot 0) (.cons (.slot 1) (.cons (.slot 2) (.cons (.slot 3) .nil)))))) (.cons (.ret (.isN false (.call 63 (.cons (.slot 0) (.cons (.slot 1) (.cons (.slot 2) (.cons (.slot 3) .nil))))))) .nil)
def d_sees : DefJ := ⟨4, 4, b_sees⟩
/-- 66 failing_file: script key value reader found -/
def b_failing_file : ISs := .cons (.drop (.call 64 (.cons (.slot 0) (.cons (.slot 1) (.cons (.slot 2) (.cons (.slot 3) .nil)))))) (.cons (.set 4 (.call 63 (.cons (.slot 0) (.cons (.slot 1) (.cons (.slot 2) (.cons (.slot 3) .nil)))))) (.cons (.ret (.ife (.isN false (.slot 4)) (.con .none) (.call 27 (.cons (.lst (.cons (.tup (.cons (.slot 1) (.cons (.slot 4) .nil))) .nil)) .nil)))) .nil))
def d_failing_file : DefJ := ⟨4, 5, b_failing_file⟩
/-- 67 own_values: values named value -/
def b_own_values : ISs := .cons (.ret (.comp (.slot 2) (.nm 2) (.val (.slot 0)) (.some (.cmp .NotIn (.slot 2) (.slot 1))) [2])) .nil
def d_own_values : DefJ := ⟨2, 3, b_own_values⟩
def l1_losing_view : ISs := .cons (.ife (.cmp .NotEq (.call 67 (.cons (.idx (.call 28 (.cons (.slot 0) (.cons (.slot 1) (.cons (.slot 3) .nil)))) (.con (.int 0))) (.cons (.slot 2) .nil))) (.call 67 (.cons (.idx (.slot 3) (.con (.int 0))) (.cons (.slot 2) .nil)))) (.cons (.ret (.slot 3)) .nil) .nil) .nil
/-- 68 losing_view: steps key named seen -/
def b_losing_view : ISs := .cons (.set 2 (.call 5 (.cons (.slot 0) (.cons (.slot 1) .nil)))) (.cons (.for_ (.nm 3) (.val (.call 33 (.cons (.tup (.cons (.slot 0) .nil)) (.cons (.slot 1) (.cons (.call 35 (.cons (.tup (.cons (.slot 0) .nil)) .nil)) .nil))))) l1_losing_view) (.cons (.ret (.con .none)) .nil))
def d_losing_view : DefJ := ⟨2, 4, b_losing_view⟩
/-- 69 keeps: script key -/
def b_keeps : ISs := .cons (.drop (.call 8 (.cons (.slot 0) .nil))) (.cons (.drop (.call 10 (.cons (.slot 1) .nil))) (.cons (.ret (.isN false (.call 68 (.cons (.slot 0) (.cons (.slot 1) .nil))))) .nil))
def d_keeps : DefJ := ⟨2, 2, b_keeps⟩
/-- 70 losing_file: script key found -/
def b_losing_file : ISs := .cons (.drop (.call 8 (.cons (.slot 0) .nil))) (.cons (.drop (.call 10 (.cons (.slot 1) .nil))) (.cons (.set 2 (.call 68 (.cons (.slot 0) (.cons (.slot 1) .nil)))) (.cons (.ret (.ife (.isN false (.slot 2)) (.con .none) (.call 27 (.cons (.lst (.cons (.tup (.cons (.slot 1) (.cons (.slot 2) .nil))) .nil)) .nil)))) .nil)))
def d_losing_file : DefJ := ⟨2, 3, b_losing_file⟩
/-- 71 script_text: script step -/
def b_script_text : ISs := .cons (.drop (.call 8 (.cons (.slot 0) .nil))) (.cons (.ret (.join (.con (.str "\n")) (.comp (.join (.con (.str " ")) (.slot 1)) (.nm 1) (.val (.slot 0)) .none [1]))) .nil)
def d_script_text : DefJ := ⟨1, 2, b_script_text⟩
/-- 72 rows_in: value -/
def b_rows_in : ISs := .cons (.ife (.not (.isi (.slot 0) "str")) (.cons (.raisx 7 "row" (.con (.int 0))) .nil) .nil) (.cons (.ret (.ife (.cmp .NotEq (.slot 0) (.con (.str ""))) (.split (.slot 0) (.con (.str "\n"))) (.lst .nil))) .nil)
def d_rows_in : DefJ := ⟨1, 1, b_rows_in⟩
def l1_read_script : ISs := .cons (.set 4 (.bi .tup (.split (.slot 3) (.con (.str " "))))) (.cons (.ife (.not (.call 4 (.cons (.slot 4) .nil))) (.cons (.raisx 7 "row" (.bin .Add (.slot 2) (.con (.int 1)))) .nil) .nil) (.cons (.set 1 (.bin .Add (.slot 1) (.tup (.cons (.slot 4) .nil)))) .nil))
/-- 73 read_script: value found at row step -/
def b_read_script : ISs := .cons (.set 1 (.tup .nil)) (.cons (.for_ (.tp [2, 3]) (.enum (.call 72 (.cons (.slot 0) .nil))) l1_read_script) (.cons (.ife (.not (.call 7 (.cons (.slot 1) .nil))) (.cons (.raisx 7 "row" (.bin .Add (.bi .len (.slot 1)) (.con (.int 1)))) .nil) .nil) (.cons (.ret (.slot 1)) .nil)))
def d_read_script : DefJ := ⟨1, 5, b_read_script⟩
/-- 74 line_text: line -/
def b_line_text : ISs := .cons (.ret (.bin .Add (.bin .Add (.bin .Add (.ife (.idx (.slot 0) (.con (.int 2))) (.con (.str "")) (.con (.str "#"))) (.idx (.slot 0) (.con (.int 0)))) (.con (.str "="))) (.idx (.slot 0) (.con (.int 1))))) .nil
def d_line_text : DefJ := ⟨1, 1, b_line_text⟩
/-- 75 file_text: file line -/
def b_file_text : ISs := .cons (.drop (.call 9 (.cons (.slot 0) .nil))) (.cons (.ret (.join (.con (.str "\n")) (.comp (.call 74 (.cons (.slot 1) .nil)) (.nm 1) (.val (.slot 0)) .none [1]))) .nil)
def d_file_text : DefJ := ⟨1, 2, b_file_text⟩
/-- 76 line_in: row bare words -/
def b_line_in : ISs := .cons (.set 1 (.ife (.cmp .Eq (.slice (.slot 0) .none (.some (.con (.int 1)))) (.con (.str "#"))) (.slice (.slot 0) (.some (.con (.int 1))) .none) (.slot 0))) (.cons (.set 2 (.split (.slot 1) (.con (.str "=")))) (.cons (.ife (.orV (.cmp .NotEq (.bi .len (.slot 2)) (.con (.int 2))) (.orV (.not (.call 0 (.cons (.idx (.slot 2) (.con (.int 0))) .nil))) (.one (.not (.call 0 (.cons (.idx (.slot 2) (.con (.int 1))) .nil)))))) (.cons (.ret (.con .none)) .nil) .nil) (.cons (.ret (.tup (.cons (.idx (.slot 2) (.con (.int 0))) (.cons (.idx (.slot 2) (.con (.int 1))) (.cons (.cmp .NotEq (.slice (.slot 0) .none (.some (.con (.int 1)))) (.con (.str "#"))) .nil))))) .nil)))
def d_line_in : DefJ := ⟨1, 3, b_line_in⟩
def l1_read_file : ISs := .cons (.set 4 (.call 76 (.cons (.slot 3) .nil))) (.cons (.ife (.isN false (.slot 4)) (.cons (.raisx 7 "row" (.bin .Add (.slot 2) (.con (.int 1)))) .nil) .nil) (.cons (.set 1 (.bin .Add (.slot 1) (.tup (.cons (.slot 4) .nil)))) .nil))
/-- 77 read_file: value found at row line -/
def b_read_file : ISs := .cons (.set 1 (.tup .nil)) (.cons (.for_ (.tp [2, 3]) (.enum (.call 72 (.cons (.slot 0) .nil))) l1_read_file) (.cons (.ife (.not (.call 2 (.cons (.slot 1) .nil))) (.cons (.raisx 7 "row" (.bin .Add (.bi .len (.slot 1)) (.con (.int 1)))) .nil) .nil) (.cons (.ret (.slot 1)) .nil)))
def d_read_file : DefJ := ⟨1, 5, b_read_file⟩
def l1__wall : ISs := .cons (.pass) .nil
/-- 78 _wall: k -/
def b__wall : ISs := .cons (.while_ (.con (.bool true)) l1__wall) .nil
def d__wall : DefJ := ⟨1, 1, b__wall⟩
/-- 120 _law_well: _law_cell _law_salt _law_figures -/
def b__law_well : ISs := .cons (.set 2 (.ife (.cmp .GtE (.slot 0) (.bin .Pow (.con (.int 10)) (.con (.int 18)))) (.bin .FloorDiv (.slot 0) (.con (.int 7))) (.con (.int 0)))) (.cons (.ret (.mlst (.cons (.slot 2) (.cons (.bin .Add (.bin .Mod (.bi .int (.bin .Add (.slot 0) (.bin .Mult (.con (.int 1000)) (.slot 1)))) (.con (.int 715827881))) (.slot 1)) .nil)))) .nil)
def d__law_well : DefJ := ⟨2, 3, b__law_well⟩
/-- 121 _law_pull: _law_well_here _law_many _law_found _law_over -/
def b__law_pull : ISs := .cons (.ife (.cmp .Gt (.idxR (.slot 0) (.con (.int 0))) (.con (.int 0))) (.cons (.set 2 (.bin .Mod (.bi .int (.idxR (.slot 0) (.con (.int 0)))) (.slot 1))) (.cons (.sto (.slot 0) (.con (.int 0)) (.bin .FloorDiv (.idxR (.slot 0) (.con (.int 0))) (.slot 1))) (.cons (.ret (.slot 2)) .nil))) .nil) (.cons (.sto (.slot 0) (.con (.int 1)) (.bin .Mod (.bi .int (.bin .Add (.bin .Mult (.idxR (.slot 0) (.con (.int 1))) (.con (.int 1103515))) (.con (.int 12820163)))) (.con (.int 2147483053)))) (.cons (.set 3 (.bin .Mod (.bi .int (.bin .Mult (.idxR (.slot 0) (.con (.int 1))) (.bin .Add (.idxR (.slot 0) (.con (.int 1))) (.con (.int 7))))) (.con (.int 2147481359)))) (.cons (.ret (.bin .Mod (.bi .int (.bin .FloorDiv (.slot 3) (.con (.int 503)))) (.slot 1))) .nil)))
def d__law_pull : DefJ := ⟨2, 4, b__law_pull⟩
/-- 122 _law_out: _law_well_here _law_some -/
def b__law_out : ISs := .cons (.ret (.idx (.slot 1) (.call 121 (.cons (.slot 0) (.cons (.bi .len (.slot 1)) .nil))))) .nil
def d__law_out : DefJ := ⟨2, 2, b__law_out⟩
/-- 123 _law_step: _law_well_here _law_keys _law_key _law_kind _law_value _law_one _law_other -/
def b__law_step : ISs := .cons (.par [2, 3, 4] (.cons (.call 122 (.cons (.slot 0) (.cons (.slot 1) .nil))) (.cons (.call 121 (.cons (.slot 0) (.cons (.con (.int 14)) .nil))) (.cons (.call 122 (.cons (.slot 0) (.cons (.lst (.cons (.con (.str "a")) (.cons (.con (.str "a")) (.cons (.con (.str "b")) .nil)))) .nil))) .nil)))) (.cons (.ife (.cmp .Lt (.slot 3) (.con (.int 3))) (.cons (.ret (.tup (.cons (.con (.str "set")) (.cons (.slot 2) (.cons (.slot 4) .nil))))) .nil) .nil) (.cons (.ife (.cmp .Lt (.slot 3) (.con (.int 6))) (.cons (.ret (.tup (.cons (.con (.str "add")) (.cons (.slot 2) (.cons (.slot 4) (.cons (.call 122 (.cons (.slot 0) (.cons (.lst (.cons (.con (.str "end")) (.cons (.con (.str "end")) (.cons (.con (.str "top")) .nil)))) .nil))) .nil)))))) .nil) .nil) (.cons (.ife (.cmp .Lt (.slot 3) (.con (.int 9))) (.cons (.ret (.tup (.cons (.call 122 (.cons (.slot 0) (.cons (.lst (.cons (.con (.str "first")) (.cons (.con (.str "last")) (.cons (.con (.str "drop")) (.cons (.con (.str "drop")) (.cons (.con (.str "purge")) (.cons (.con (.str "strike")) (.cons (.con (.str "strike")) .nil)))))))) .nil))) (.cons (.slot 2) .nil)))) .nil) .nil) (.cons (.ife (.cmp .Lt (.slot 3) (.con (.int 10))) (.cons (.ret (.tup (.cons (.con (.str "only")) (.cons (.slot 2) (.cons (.slot 4) .nil))))) .nil) .nil) (.cons (.setT (.tp [5, 6]) (.call 122 (.cons (.slot 0) (.cons (.lst (.cons (.tup (.cons (.con (.str "a")) (.cons (.con (.str "b")) .nil))) (.cons (.tup (.cons (.con (.str "b")) (.cons (.con (.str "a")) .nil))) (.cons (.tup (.cons (.con (.str "a")) (.cons (.con (.str "c")) .nil))) (.cons (.tup (.cons (.con (.str "c")) (.cons (.con (.str "b")) .nil))) (.cons (.tup (.cons (.con (.str "c")) (.cons (.con (.str "a")) .nil))) .nil)))))) .nil)))) (.cons (.ret (.tup (.cons (.con (.str "swap")) (.cons (.slot 2) (.cons (.slot 5) (.cons (.slot 6) .nil)))))) .nil))))))
def d__law_step : DefJ := ⟨2, 7, b__law_step⟩
/-- 124 _law_script: _law_well_here _law_most _law_keys _law_turn -/
def b__law_script : ISs := .cons (.set 2 (.call 122 (.cons (.slot 0) (.cons (.lst (.cons (.lst (.cons (.con (.str "k")) .nil)) (.cons (.lst (.cons (.con (.str "k")) .nil)) (.cons (.lst (.cons (.con (.str "k")) (.cons (.con (.str "k")) (.cons (.con (.str "port")) .nil)))) .nil)))) .nil)))) (.cons (.ret (.bi .tup (.comp (.call 123 (.cons (.slot 0) (.cons (.slot 2) .nil))) (.nm 3) (.rng (.call 121 (.cons (.slot 0) (.cons (.bin .Add (.slot 1) (.con (.int 1))) .nil)))) .none [3]))) .nil)
def d__law_script : DefJ := ⟨2, 4, b__law_script⟩
/-- 125 _law_line: _law_well_here _law_keys _law_value -/
def b__law_line : ISs := .cons (.set 2 (.call 122 (.cons (.slot 0) (.cons (.lst (.cons (.con (.str "a")) (.cons (.con (.str "b")) (.cons (.con (.str "c")) (.cons (.con (.str "old")) (.cons (.con (.str "x")) (.cons (.con (.str "yy")) .nil))))))) .nil)))) (.cons (.ret (.tup (.cons (.call 122 (.cons (.slot 0) (.cons (.slot 1) .nil))) (.cons (.slot 2) (.cons (.cmp .Gt (.call 121 (.cons (.slot 0) (.cons (.con (.int 3)) .nil))) (.con (.int 0))) .nil))))) .nil)
def d__law_line : DefJ := ⟨2, 3, b__law_line⟩
/-- 126 _law_file: _law_well_here _law_most _law_keys _law_turn -/
def b__law_file : ISs := .cons (.set 2 (.call 122 (.cons (.slot 0) (.cons (.lst (.cons (.lst (.cons (.con (.str "k")) .nil)) (.cons (.lst (.cons (.con (.str "k")) (.cons (.con (.str "port")) .nil))) (.cons (.lst (.cons (.con (.str "k")) (.cons (.con (.str "k")) (.cons (.con (.str "port")) (.cons (.con (.str "host")) .nil))))) .nil)))) .nil)))) (.cons (.ret (.bi .tup (.comp (.call 125 (.cons (.slot 0) (.cons (.slot 2) .nil))) (.nm 3) (.rng (.call 121 (.cons (.slot 0) (.cons (.bin .Add (.slot 1) (.con (.int 1))) .nil)))) .none [3]))) .nil)
def d__law_file : DefJ := ⟨2, 4, b__law_file⟩
/-- 127 _law_is_label: _law_value _law_sign -/
def b__law_is_label : ISs := .cons (.ife (.orV (.not (.isi (.slot 0) "str")) (.one (.not (.chain .LtE .LtE (.con (.int 1)) (.bi .len (.slot 0)) (.con (.int 8)))))) (.cons (.ret (.con (.bool false))) .nil) .nil) (.cons (.ret (.cmp .Eq (.comp (.slot 1) (.nm 1) (.val (.slot 0)) (.some (.cmp .NotIn (.slot 1) (.con (.str "abcdefghijklmnopqrstuvwxyz")))) [1]) (.lst .nil))) .nil)
def d__law_is_label : DefJ := ⟨1, 2, b__law_is_label⟩
/-- 128 _law_is_line: _law_value -/
def b__law_is_line : ISs := .cons (.ife (.orV (.not (.isi (.slot 0) "tuple")) (.orV (.cmp .NotEq (.bi .len (.slot 0)) (.con (.int 3))) (.one (.not (.isi (.idx (.slot 0) (.con (.int 2))) "bool"))))) (.cons (.ret (.con (.bool false))) .nil) .nil) (.cons (.ret (.andV (.call 127 (.cons (.idx (.slot 0) (.con (.int 0))) .nil)) (.one (.call 127 (.cons (.idx (.slot 0) (.con (.int 1))) .nil))))) .nil)
def d__law_is_line : DefJ := ⟨1, 1, b__law_is_line⟩
/-- 129 _law_is_file: _law_value _law_line_here -/
def b__law_is_file : ISs := .cons (.ife (.orV (.not (.isi (.slot 0) "tuple")) (.one (.cmp .Gt (.bi .len (.slot 0)) (.con (.int 40))))) (.cons (.ret (.con (.bool false))) .nil) .nil) (.cons (.ret (.cmp .Eq (.comp (.slot 1) (.nm 1) (.val (.slot 0)) (.some (.not (.call 128 (.cons (.slot 1) .nil)))) [1]) (.lst .nil))) .nil)
def d__law_is_file : DefJ := ⟨1, 2, b__law_is_file⟩
def l1__law_values_named : ISs := .cons (.ife (.andV (.cmp .Eq (.idx (.slot 3) (.con (.int 1))) (.slot 1)) (.one (.cmp .In (.idx (.slot 3) (.con (.int 0))) (.tup (.cons (.con (.str "set")) (.cons (.con (.str "add")) (.cons (.con (.str "only")) .nil))))))) (.cons (.app (.slot 2) (.idx (.slot 3) (.con (.int 2)))) .nil) (.cons (.ife (.andV (.cmp .Eq (.idx (.slot 3) (.con (.int 1))) (.slot 1)) (.one (.cmp .Eq (.idx (.slot 3) (.con (.int 0))) (.con (.str "swap"))))) (.cons (.set 2 (.mcat (.frz (.slot 2)) (.lst (.cons (.idx (.slot 3) (.con (.int 2))) (.cons (.idx (.slot 3) (.con (.int 3))) .nil))))) .nil) .nil) .nil)) .nil
/-- 130 _law_values_named: _law_script_here _law_key _law_found _law_step_here -/
def b__law_values_named : ISs := .cons (.set 2 (.mlst .nil)) (.cons (.for_ (.nm 3) (.val (.slot 0)) l1__law_values_named) (.cons (.ret (.srt (.frz (.slot 2)))) .nil))
def d__law_values_named : DefJ := ⟨2, 4, b__law_values_named⟩
/-- 131 _law_is_step: _law_value _law_many _law_labels _law_part -/
def b__law_is_step : ISs := .cons (.ife (.orV (.not (.isi (.slot 0) "tuple")) (.orV (.cmp .Eq (.slot 0) (.tup .nil)) (.one (.not (.isi (.idx (.slot 0) (.con (.int 0))) "str"))))) (.cons (.ret (.con (.bool false))) .nil) .nil) (.cons (.set 1 (.dget [("set", 3), ("add", 4), ("only", 3), ("swap", 4)] (.idx (.slot 0) (.con (.int 0))) 2)) (.cons (.ife (.cmp .NotIn (.idx (.slot 0) (.con (.int 0))) (.tup (.cons (.con (.str "set")) (.cons (.con (.str "add")) (.cons (.con (.str "only")) (.cons (.con (.str "swap")) (.cons (.con (.str "first")) (.cons (.con (.str "last")) (.cons (.con (.str "drop")) (.cons (.con (.str "purge")) (.cons (.con (.str "strike")) .nil))))))))))) (.cons (.ret (.con (.bool false))) .nil) .nil) (.cons (.ife (.cmp .NotEq (.bi .len (.slot 0)) (.slot 1)) (.cons (.ret (.con (.bool false))) .nil) .nil) (.cons (.set 2 (.ife (.cmp .Eq (.idx (.slot 0) (.con (.int 0))) (.con (.str "add"))) (.slice (.slot 0) (.some (.con (.int 1))) (.some (.con (.int 3)))) (.slice (.slot 0) (.some (.con (.int 1))) .none))) (.cons (.ife (.cmp .NotEq (.comp (.slot 3) (.nm 3) (.val (.slot 2)) (.some (.not (.call 127 (.cons (.slot 3) .nil)))) [3]) (.lst .nil)) (.cons (.ret (.con (.bool false))) .nil) .nil) (.cons (.ife (.cmp .Eq (.idx (.slot 0) (.con (.int 0))) (.con (.str "add"))) (.cons (.ret (.andV (.isi (.idx (.slot 0) (.con (.int 3))) "str") (.one (.cmp .In (.idx (.slot 0) (.con (.int 3))) (.tup (.cons (.con (.str "end")) (.cons (.con (.str "top")) .nil))))))) .nil) .nil) (.cons (.ret (.orV (.cmp .NotEq (.idx (.slot 0) (.con (.int 0))) (.con (.str "swap"))) (.one (.cmp .NotEq (.idx (.slot 0) (.con (.int 2))) (.idx (.slot 0) (.con (.int 3))))))) .nil)))))))
def d__law_is_step : DefJ := ⟨1, 4, b__law_is_step⟩
/-- 132 _law_is_script: _law_value _law_step_here -/
def b__law_is_script : ISs := .cons (.ife (.orV (.not (.isi (.slot 0) "tuple")) (.one (.cmp .Gt (.bi .len (.slot 0)) (.con (.int 6))))) (.cons (.ret (.con (.bool false))) .nil) .nil) (.cons (.ife (.cmp .NotEq (.comp (.slot 1) (.nm 1) (.val (.slot 0)) (.some (.not (.call 131 (.cons (.slot 1) .nil)))) [1]) (.lst .nil)) (.cons (.ret (.con (.bool false))) .nil) .nil) (.cons (.ret (.cmp .Eq (.comp (.slot 1) (.nm 1) (.val (.slot 0)) (.some (.cmp .Gt (.bi .len (.call 130 (.cons (.slot 0) (.cons (.idx (.slot 1) (.con (.int 1))) .nil)))) (.con (.int 4)))) [1]) (.lst .nil))) .nil))
def d__law_is_script : DefJ := ⟨1, 2, b__law_is_script⟩
def l1__law_run : ISs := .cons (.set 1 (.call 135 (.cons (.slot 2) (.cons (.slot 1) .nil)))) .nil
/-- 133 _law_run: _law_script_here _law_file_here _law_step_here -/
def b__law_run : ISs := .cons (.for_ (.nm 2) (.val (.slot 0)) l1__law_run) (.cons (.ret (.slot 1)) .nil)
def d__law_run : DefJ := ⟨2, 3, b__law_run⟩
/-- 134 _law_view: _law_file_here _law_key _law_mine _law_live _law_line_here -/
def b__law_view : ISs := .cons (.set 2 (.comp (.slot 4) (.nm 4) (.val (.slot 0)) (.some (.cmp .Eq (.idx (.slot 4) (.con (.int 0))) (.slot 1))) [4])) (.cons (.set 3 (.bi .tup (.comp (.idx (.slot 4) (.con (.int 1))) (.nm 4) (.val (.slot 2)) (.some (.idx (.slot 4) (.con (.int 2)))) [4]))) (.cons (.ret (.tup (.cons (.slot 3) (.cons (.bin .Sub (.bi .len (.slot 2)) (.bi .len (.slot 3))) .nil)))) .nil))
def d__law_view : DefJ := ⟨2, 5, b__law_view⟩
def l1__law_done : ISs := .cons (.set 11 (.idx (.slot 1) (.slot 10))) (.cons (.ife (.orV (.cmp .NotEq (.idx (.slot 11) (.con (.int 0))) (.slot 3)) (.one (.andV (.not (.idx (.slot 11) (.con (.int 2)))) (.one (.cmp .NotEq (.slot 2) (.con (.str "purge"))))))) (.cons (.set 9 (.bin .Add (.slot 9) (.tup (.cons (.slot 11) .nil)))) .nil) (.cons (.ife (.cmp .Eq (.slot 2) (.con (.str "strike"))) (.cons (.set 9 (.bin .Add (.slot 9) (.tup (.cons (.tup (.cons (.slot 3) (.cons (.idx (.slot 11) (.con (.int 1))) (.cons (.con (.bool false)) .nil)))) .nil)))) .nil) (.cons (.ife (.cmp .Eq (.slot 2) (.con (.str "swap"))) (.cons (.set 12 (.ife (.cmp .Eq (.idx (.slot 11) (.con (.int 1))) (.idx (.slot 0) (.con (.int 2)))) (.idx (.slot 0) (.con (.int 3))) (.idx (.slot 11) (.con (.int 1))))) (.cons (.set 9 (.bin .Add (.slot 9) (.tup (.cons (.tup (.cons (.slot 3) (.cons (.slot 12) (.cons (.con (.bool true)) .nil)))) .nil)))) .nil)) (.cons (.ife (.andV (.cmp .In (.slot 2) (.tup (.cons (.con (.str "first")) (.cons (.con (.str "only")) .nil)))) (.one (.cmp .Eq (.slot 10) (.idx (.slot 4) (.con (.int 0)))))) (.cons (.set 9 (.bin .Add (.slot 9) (.tup (.cons (.ife (.cmp .Eq (.slot 2) (.con (.str "first"))) (.slot 11) (.slot 6)) .nil)))) .nil) (.cons (.ife (.andV (.cmp .Eq (.slot 2) (.con (.str "last"))) (.one (.cmp .Eq (.slot 10) (.idx (.slot 4) (.neg (.con (.int 1))))))) (.cons (.set 9 (.bin .Add (.slot 9) (.tup (.cons (.slot 11) .nil)))) .nil) .nil) .nil)) .nil)) .nil)) .nil)) .nil)
/-- 135 _law_done: _law_step_here _law_file_here _law_word _law_key _law_live _law_dead _law_new _law_there _law_spot _law_found _law_at _law_line_here _law_value -/
def b__law_done : ISs := .cons (.setT (.tp [2, 3]) (.tup (.cons (.idx (.slot 0) (.con (.int 0))) (.cons (.idx (.slot 0) (.con (.int 1))) .nil)))) (.cons (.set 4 (.comp (.slot 10) (.nm 10) (.rng (.bi .len (.slot 1))) (.some (.andV (.cmp .Eq (.idx (.idx (.slot 1) (.slot 10)) (.con (.int 0))) (.slot 3)) (.one (.idx (.idx (.slot 1) (.slot 10)) (.con (.int 2)))))) [10])) (.cons (.set 5 (.comp (.slot 10) (.nm 10) (.rng (.bi .len (.slot 1))) (.some (.andV (.cmp .Eq (.idx (.idx (.slot 1) (.slot 10)) (.con (.int 0))) (.slot 3)) (.one (.not (.idx (.idx (.slot 1) (.slot 10)) (.con (.int 2))))))) [10])) (.cons (.set 6 (.ife (.cmp .In (.slot 2) (.tup (.cons (.con (.str "set")) (.cons (.con (.str "add")) (.cons (.con (.str "only")) .nil))))) (.tup (.cons (.slot 3) (.cons (.idx (.slot 0) (.con (.int 2))) (.cons (.con (.bool true)) .nil)))) (.con .none))) (.cons (.ife (.cmp .Eq (.slot 2) (.con (.str "add"))) (.cons (.set 7 (.cmp .In (.slot 6) (.slot 1))) (.cons (.ret (.ife (.slot 7) (.slot 1) (.ife (.cmp .Eq (.idx (.slot 0) (.con (.int 3))) (.con (.str "top"))) (.bin .Add (.tup (.cons (.slot 6) .nil)) (.slot 1)) (.bin .Add (.slot 1) (.tup (.cons (.slot 6) .nil)))))) .nil)) .nil) (.cons (.ife (.orV (.cmp .Eq (.slot 2) (.con (.str "set"))) (.one (.andV (.cmp .Eq (.slot 2) (.con (.str "only"))) (.one (.cmp .Eq (.slot 4) (.lst .nil)))))) (.cons (.set 8 (.neg (.con (.int 1)))) (.cons (.ife (.andV (.cmp .Eq (.slot 2) (.con (.str "set"))) (.one (.cmp .NotEq (.bin .Add (.slot 4) (.slot 5)) (.lst .nil)))) (.cons (.set 8 (.ife (.cmp .NotEq (.slot 4) (.lst .nil)) (.idx (.slot 4) (.neg (.con (.int 1)))) (.idx (.slot 5) (.neg (.con (.int 1)))))) .nil) .nil) (.cons (.ret (.ife (.cmp .Lt (.slot 8) (.con (.int 0))) (.bin .Add (.slot 1) (.tup (.cons (.slot 6) .nil))) (.bin .Add (.bin .Add (.slice (.slot 1) .none (.some (.slot 8))) (.tup (.cons (.slot 6) .nil))) (.slice (.slot 1) (.some (.bin .Add (.slot 8) (.con (.int 1)))) .none)))) .nil))) .nil) (.cons (.set 9 (.tup .nil)) (.cons (.for_ (.nm 10) (.rng (.bi .len (.slot 1))) l1__law_done) (.cons (.ret (.slot 9)) .nil))))))))
def d__law_done : DefJ := ⟨2, 13, b__law_done⟩
/-- 136 _law_odd: _law_well_here _law_some -/
def b__law_odd : ISs := .cons (.set 1 (.lst (.cons (.con .none) (.cons (.con (.bool true)) (.cons (.con (.bool false)) (.cons (.con (.int 0)) (.cons (.con (.int 1)) (.cons (.neg (.con (.int 1))) (.cons (.bin .Pow (.con (.int 10)) (.con (.int 30))) (.cons (.con (.str "")) (.cons (.con (.str "a")) (.cons (.con (.str "k")) (.cons (.con (.str "set")) (.cons (.con (.str "end")) (.cons (.con (.str "top")) (.cons (.con (.str "all")) (.cons (.con (.str "abcdefghi")) (.cons (.con (.str "A")) (.cons (.con (.str "a b")) .nil))))))))))))))))))) (.cons (.set 1 (.bin .Add (.slot 1) (.lst (.cons (.tup .nil) (.cons (.lst .nil) (.cons (.tup (.cons (.con (.str "drop")) (.cons (.con (.str "k")) .nil))) (.cons (.tup (.cons (.con (.str "set")) (.cons (.con (.str "k")) (.cons (.con (.str "a")) .nil)))) (.cons (.tup (.cons (.con (.str "k")) (.cons (.con (.str "a")) (.cons (.con (.bool true)) .nil)))) (.cons (.tup (.cons (.tup (.cons (.con (.str "k")) (.cons (.con (.str "a")) (.cons (.con (.bool true)) .nil)))) .nil)) .nil))))))))) (.cons (.ret (.call 122 (.cons (.slot 0) (.cons (.bin .Add (.slot 1) (.lst (.cons (.tup (.cons (.con (.str "swap")) (.cons (.con (.str "k")) (.cons (.con (.str "a")) (.cons (.con (.str "a")) .nil))))) .nil))) .nil)))) .nil))
def d__law_odd : DefJ := ⟨1, 2, b__law_odd⟩
/-- 137 _law_bent: _law_well_here _law_value _law_at _law_way -/
def b__law_bent : ISs := .cons (.ife (.orV (.not (.isi (.slot 1) "tuple")) (.orV (.cmp .Eq (.slot 1) (.tup .nil)) (.one (.cmp .Eq (.call 121 (.cons (.slot 0) (.cons (.con (.int 6)) .nil))) (.con (.int 0)))))) (.cons (.ret (.ife (.isi (.slot 1) "bool") (.not (.slot 1)) (.call 136 (.cons (.slot 0) .nil)))) .nil) .nil) (.cons (.par [2, 3] (.cons (.call 121 (.cons (.slot 0) (.cons (.bi .len (.slot 1)) .nil))) (.cons (.call 121 (.cons (.slot 0) (.cons (.con (.int 10)) .nil))) .nil))) (.cons (.ife (.cmp .Eq (.slot 3) (.con (.int 0))) (.cons (.ret (.bin .Add (.slice (.slot 1) .none (.some (.slot 2))) (.slice (.slot 1) (.some (.bin .Add (.slot 2) (.con (.int 1)))) .none))) .nil) .nil) (.cons (.ife (.cmp .Eq (.slot 3) (.con (.int 1))) (.cons (.ret (.bin .Add (.slice (.slot 1) .none (.some (.bin .Add (.slot 2) (.con (.int 1))))) (.slice (.slot 1) (.some (.slot 2)) .none))) .nil) .nil) (.cons (.ife (.cmp .Eq (.slot 3) (.con (.int 2))) (.cons (.ret (.bin .Add (.bin .Add (.slice (.slot 1) .none (.some (.slot 2))) (.tup (.cons (.call 136 (.cons (.slot 0) .nil)) .nil))) (.slice (.slot 1) (.some (.slot 2)) .none))) .nil) .nil) (.cons (.ife (.cmp .Eq (.slot 3) (.con (.int 3))) (.cons (.ret (.bi .lst (.slot 1))) .nil) .nil) (.cons (.ife (.cmp .Eq (.slot 3) (.con (.int 4))) (.cons (.ret (.bin .Add (.slice (.slot 1) (.some (.slot 2)) .none) (.slice (.slot 1) .none (.some (.slot 2))))) .nil) .nil) (.cons (.ret (.bin .Add (.bin .Add (.slice (.slot 1) .none (.some (.slot 2))) (.tup (.cons (.call 137 (.cons (.slot 0) (.cons (.idx (.slot 1) (.slot 2)) .nil))) .nil))) (.slice (.slot 1) (.some (.bin .Add (.slot 2) (.con (.int 1)))) .none))) .nil)))))))
def d__law_bent : DefJ := ⟨2, 4, b__law_bent⟩
def l1__law_all_files : ISs := .cons (.set 4 (.mcat (.frz (.slot 4)) (.comp (.bin .Add (.slot 5) (.tup (.cons (.tup (.cons (.con (.str "k")) (.cons (.slot 6) (.cons (.con (.bool true)) .nil)))) .nil))) (.nm 6) (.val (.tup (.cons (.con (.str "a")) (.cons (.con (.str "b")) (.cons (.con (.str "c")) (.cons (.con (.str "x")) (.cons (.con (.str "y")) (.cons (.con (.str "z")) .nil)))))))) .none [6]))) (.cons (.app (.slot 4) (.bin .Add (.slot 5) (.tup (.cons (.tup (.cons (.con (.str "k")) (.cons (.con (.str "a")) (.cons (.con (.bool false)) .nil)))) .nil)))) .nil)
def l2__law_all_files : ISs := .cons (.set 4 (.mlst .nil)) (.cons (.for_ (.nm 5) (.val (.slot 2)) l1__law_all_files) (.cons (.set 2 (.frz (.slot 4))) (.cons (.set 1 (.bin .Add (.slot 1) (.slot 2))) .nil)))
/-- 138 _law_all_files: _law_most _law_found _law_row _law_turn _law_longer _law_file_here _law_value -/
def b__law_all_files : ISs := .cons (.par [1, 2] (.cons (.lst (.cons (.tup .nil) .nil)) (.cons (.lst (.cons (.tup .nil) .nil)) .nil))) (.cons (.for_ (.nm 3) (.rng (.slot 0)) l2__law_all_files) (.cons (.ret (.slot 1)) .nil))
def d__law_all_files : DefJ := ⟨1, 7, b__law_all_files⟩
/-- 139 _law_one_key: _law_well_here _law_most _law_turn -/
def b__law_one_key : ISs := .cons (.ret (.bi .tup (.comp (.call 123 (.cons (.slot 0) (.cons (.lst (.cons (.con (.str "k")) .nil)) .nil))) (.nm 2) (.rng (.bin .Add (.con (.int 1)) (.call 121 (.cons (.slot 0) (.cons (.slot 1) .nil))))) .none [2]))) .nil
def d__law_one_key : DefJ := ⟨2, 3, b__law_one_key⟩
end P
end

section
set_option maxRecDepth 100000
set_option maxHeartbeats 0
namespace T
open PySem PySem.Spec PyProof.Rows J
/-! ### the text in the small language (printed by gen.py) -/
def top (i : Nat) : Stmt := PySem.Challenge.pw_lineseen_k15_spoilt_texts.main.body.getD i (.Pass ⟨0, 0, 0, 0⟩)
def j_is_label : DJ := ⟨"is_label", top 9, ["value", "sign"], ["value"], P.b_is_label⟩
def j_is_line : DJ := ⟨"is_line", top 10, ["value"], ["value"], P.b_is_line⟩
def j_is_file : DJ := ⟨"is_file", top 11, ["value", "line"], ["value"], P.b_is_file⟩
def j_form_of : DJ := ⟨"form_of", top 12, ["word"], ["word"], P.b_form_of⟩
def j_is_step : DJ := ⟨"is_step", top 13, ["value", "form", "sort", "part"], ["value"], P.b_is_step⟩
def j_named_by : DJ := ⟨"named_by", top 14, ["steps", "key", "found", "step"], ["steps", "key"], P.b_named_by⟩
def j_keys_of : DJ := ⟨"keys_of", top 15, ["steps", "step"], ["steps"], P.b_keys_of⟩
def j_is_script : DJ := ⟨"is_script", top 16, ["value", "step", "key"], ["value"], P.b_is_script⟩
def j_rows_in : DJ := ⟨"rows_in", top 18, ["value"], ["value"], P.b_rows_in⟩
def j_read_script : DJ := ⟨"read_script", top 19, ["value", "found", "at", "row", "step"], ["value"], P.b_read_script⟩
def j_line_in : DJ := ⟨"line_in", top 20, ["row", "bare", "words"], ["row"], P.b_line_in⟩
def j_read_file : DJ := ⟨"read_file", top 21, ["value", "found", "at", "row", "line"], ["value"], P.b_read_file⟩
def j__law_well : DJ := ⟨"_law_well", top 23, ["_law_cell", "_law_salt", "_law_figures"], ["_law_cell", "_law_salt"], P.b__law_well⟩
def j__law_pull : DJ := ⟨"_law_pull", top 24, ["_law_well_here", "_law_many", "_law_found", "_law_over"], ["_law_well_here", "_law_many"], P.b__law_pull⟩
def j__law_out : DJ := ⟨"_law_out", top 25, ["_law_well_here", "_law_some"], ["_law_well_here", "_law_some"], P.b__law_out⟩
def j__law_step : DJ := ⟨"_law_step", top 26, ["_law_well_here", "_law_keys", "_law_key", "_law_kind", "_law_value", "_law_one", "_law_other"], ["_law_well_here", "_law_keys"], P.b__law_step⟩
def j__law_script : DJ := ⟨"_law_script", top 27, ["_law_well_here", "_law_most", "_law_keys", "_law_turn"], ["_law_well_here", "_law_most"], P.b__law_script⟩
def j__law_line : DJ := ⟨"_law_line", top 28, ["_law_well_here", "_law_keys", "_law_value"], ["_law_well_here", "_law_keys"], P.b__law_line⟩
def j__law_file : DJ := ⟨"_law_file", top 29, ["_law_well_here", "_law_most", "_law_keys", "_law_turn"], ["_law_well_here", "_law_most"], P.b__law_file⟩
def l1__law_text : ISs := .cons (.set 3 (.bin .Add (.bin .Add (.slot 3) (.con (.str " "))) (.slot 4))) .nil
def l2__law_text : ISs := .cons (.set 3 (.idx (.slot 2) (.con (.int 0)))) (.cons (.for_ (.nm 4) (.val (.slice (.slot 2) (.some (.con (.int 1))) .none)) l1__law_text) (.cons (.app (.slot 1) (.slot 3)) .nil))
/-- 150 _law_text: _law_script_here _law_rows _law_step_here _law_row _law_part -/
def b__law_text : ISs := .cons (.set 1 (.mlst .nil)) (.cons (.for_ (.nm 2) (.val (.slot 0)) l2__law_text) (.cons (.ret (.join (.con (.str "\n")) (.frz (.slot 1)))) .nil))
def d__law_text : DefJ := ⟨1, 5, b__law_text⟩
def j__law_text : DJ := ⟨"_law_text", top 30, ["_law_script_here", "_law_rows", "_law_step_here", "_law_row", "_law_part"], ["_law_script_here"], b__law_text⟩
/-- 151 _law_file_text: _law_file_here _law_line_here -/
def b__law_file_text : ISs := .cons (.ret (.join (.con (.str "\n")) (.comp (.bin .Add (.bin .Add (.bin .Add (.ife (.idx (.slot 1) (.con (.int 2))) (.con (.str "")) (.con (.str "#"))) (.idx (.slot 1) (.con (.int 0)))) (.con (.str "="))) (.idx (.slot 1) (.con (.int 1)))) (.nm 1) (.val (.slot 0)) .none [1]))) .nil
def d__law_file_text : DefJ := ⟨1, 2, b__law_file_text⟩
def j__law_file_text : DJ := ⟨"_law_file_text", top 31, ["_law_file_here", "_law_line_here"], ["_law_file_here"], b__law_file_text⟩
def j__law_is_label : DJ := ⟨"_law_is_label", top 32, ["_law_value", "_law_sign"], ["_law_value"], P.b__law_is_label⟩
def j__law_is_line : DJ := ⟨"_law_is_line", top 33, ["_law_value"], ["_law_value"], P.b__law_is_line⟩
def j__law_is_file : DJ := ⟨"_law_is_file", top 34, ["_law_value", "_law_line_here"], ["_law_value"], P.b__law_is_file⟩
def j__law_is_step : DJ := ⟨"_law_is_step", top 35, ["_law_value", "_law_many", "_law_labels", "_law_part"], ["_law_value"], P.b__law_is_step⟩
def j__law_values_named : DJ := ⟨"_law_values_named", top 36, ["_law_script_here", "_law_key", "_law_found", "_law_step_here"], ["_law_script_here", "_law_key"], P.b__law_values_named⟩
def j__law_is_script : DJ := ⟨"_law_is_script", top 37, ["_law_value", "_law_step_here"], ["_law_value"], P.b__law_is_script⟩
def j__law_odd : DJ := ⟨"_law_odd", top 38, ["_law_well_here", "_law_some"], ["_law_well_here"], P.b__law_odd⟩
/-- 152 _law_line_of: _law_row _law_on _law_words _law_line_here -/
def b__law_line_of : ISs := .cons (.set 1 (.cmp .NotEq (.slice (.slot 0) .none (.some (.con (.int 1)))) (.con (.str "#")))) (.cons (.set 2 (.split (.ife (.slot 1) (.slot 0) (.slice (.slot 0) (.some (.con (.int 1))) .none)) (.con (.str "=")))) (.cons (.set 3 (.bin .Add (.bi .tup (.slot 2)) (.tup (.cons (.slot 1) .nil)))) (.cons (.ret (.ife (.call 128 (.cons (.slot 3) .nil)) (.slot 3) (.con .none))) .nil)))
def d__law_line_of : DefJ := ⟨1, 4, b__law_line_of⟩
def j__law_line_of : DJ := ⟨"_law_line_of", top 40, ["_law_row", "_law_on", "_law_words", "_law_line_here"], ["_law_row"], b__law_line_of⟩
def l1__law_due : ISs := .cons (.set 4 (.ife (.slot 1) (.bi .tup (.split (.slot 3) (.con (.str " ")))) (.call 152 (.cons (.slot 3) .nil)))) (.cons (.ife (.orV (.isN false (.slot 4)) (.one (.andV (.slot 1) (.one (.not (.call 131 (.cons (.slot 4) .nil))))))) (.cons (.ret (.bin .Add (.bi .len (.slot 2)) (.con (.int 1)))) .nil) .nil) (.cons (.set 2 (.bin .Add (.slot 2) (.tup (.cons (.slot 4) .nil)))) .nil))
/-- 153 _law_due: _law_value _law_of_steps _law_found _law_row _law_item _law_good -/
def b__law_due : ISs := .cons (.ife (.not (.isi (.slot 0) "str")) (.cons (.ret (.con (.int 0))) .nil) .nil) (.cons (.set 2 (.tup .nil)) (.cons (.for_ (.nm 3) (.val (.ife (.cmp .NotEq (.slot 0) (.con (.str ""))) (.split (.slot 0) (.con (.str "\n"))) (.lst .nil))) l1__law_due) (.cons (.set 5 (.ife (.slot 1) (.call 132 (.cons (.slot 2) .nil)) (.call 129 (.cons (.slot 2) .nil)))) (.cons (.ret (.ife (.slot 5) (.slot 2) (.bin .Add (.bi .len (.slot 2)) (.con (.int 1))))) .nil))))
def d__law_due : DefJ := ⟨2, 6, b__law_due⟩
def j__law_due : DJ := ⟨"_law_due", top 41, ["_law_value", "_law_of_steps", "_law_found", "_law_row", "_law_item", "_law_good"], ["_law_value", "_law_of_steps"], b__law_due⟩
/-- 154 _law_spoilt: _law_well_here _law_text_here _law_at _law_way _law_rows _law_here -/
def b__law_spoilt : ISs := .cons (.par [2, 3] (.cons (.call 121 (.cons (.slot 0) (.cons (.bin .Add (.bi .len (.slot 1)) (.con (.int 1))) .nil))) (.cons (.call 121 (.cons (.slot 0) (.cons (.con (.int 5)) .nil))) .nil))) (.cons (.set 4 (.split (.slot 1) (.con (.str "\n")))) (.cons (.set 5 (.call 121 (.cons (.slot 0) (.cons (.bi .len (.slot 4)) .nil)))) (.cons (.ife (.cmp .Eq (.slot 3) (.con (.int 0))) (.cons (.ret (.bin .Add (.slice (.slot 1) .none (.some (.slot 2))) (.slice (.slot 1) (.some (.bin .Add (.slot 2) (.con (.int 1)))) .none))) .nil) .nil) (.cons (.ife (.cmp .Eq (.slot 3) (.con (.int 1))) (.cons (.ret (.bin .Add (.bin .Add (.slice (.slot 1) .none (.some (.slot 2))) (.call 122 (.cons (.slot 0) (.cons (.con (.str " \n#=akA1")) .nil)))) (.slice (.slot 1) (.some (.slot 2)) .none))) .nil) .nil) (.cons (.ife (.cmp .Eq (.slot 3) (.con (.int 2))) (.cons (.ret (.join (.con (.str "\n")) (.bin .Add (.slice (.slot 4) .none (.some (.bin .Add (.slot 5) (.con (.int 1))))) (.slice (.slot 4) (.some (.slot 5)) .none)))) .nil) .nil) (.cons (.ife (.cmp .Eq (.slot 3) (.con (.int 3))) (.cons (.ret (.join (.con (.str "\n")) (.bin .Add (.slice (.slot 4) .none (.some (.slot 5))) (.slice (.slot 4) (.some (.bin .Add (.slot 5) (.con (.int 1)))) .none)))) .nil) .nil) (.cons (.ret (.join (.con (.str "\n")) (.bin .Add (.slot 4) (.slice (.slot 4) (.some (.slot 5)) .none)))) .nil)))))))
def d__law_spoilt : DefJ := ⟨2, 6, b__law_spoilt⟩
def j__law_spoilt : DJ := ⟨"_law_spoilt", top 42, ["_law_well_here", "_law_text_here", "_law_at", "_law_way", "_law_rows", "_law_here"], ["_law_well_here", "_law_text_here"], b__law_spoilt⟩
def l1_law : ISs := .cons (.setT (.tp [4, 5]) (.tup (.cons (.call 154 (.cons (.slot 2) (.cons (.slot 4) .nil))) (.cons (.call 154 (.cons (.slot 2) (.cons (.slot 5) .nil))) .nil)))) .nil
def l2_law : ISs := .cons (.setT (.tp [4, 5]) (.tup (.cons (.call 150 (.cons (.call 124 (.cons (.slot 2) (.cons (.con (.int 6)) .nil))) .nil)) (.cons (.call 151 (.cons (.call 126 (.cons (.slot 2) (.cons (.con (.int 25)) .nil))) .nil)) .nil)))) (.cons (.for_ (.nm 6) (.rng (.bin .Add (.con (.int 1)) (.call 121 (.cons (.slot 2) (.cons (.con (.int 2)) .nil))))) l1_law) (.cons (.ife (.cmp .NotEq (.lamw 14 [(7, .fld "row"), (14, .word "else")] none (.call 73 (.cons (.slot 4) .nil))) (.call 153 (.cons (.slot 4) (.cons (.con (.bool true)) .nil)))) (.cons (.ret (.con (.bool false))) .nil) .nil) (.cons (.ife (.cmp .NotEq (.lamw 14 [(7, .fld "row"), (14, .word "else")] none (.call 77 (.cons (.slot 5) .nil))) (.call 153 (.cons (.slot 5) (.cons (.con (.bool false)) .nil)))) (.cons (.ret (.con (.bool false))) .nil) .nil) .nil)))
def l3_law : ISs := .cons (.set 2 (.call 120 (.cons (.slot 1) (.cons (.con (.int 87)) .nil)))) (.cons (.for_ (.nm 3) (.rng (.con (.int 10))) l2_law) (.cons (.set 7 (.call 136 (.cons (.slot 2) .nil))) (.cons (.ife (.cmp .NotEq (.lamw 14 [(7, .fld "row"), (14, .word "else")] none (.call 73 (.cons (.slot 7) .nil))) (.call 153 (.cons (.slot 7) (.cons (.con (.bool true)) .nil)))) (.cons (.ret (.con (.bool false))) .nil) .nil) (.cons (.ife (.cmp .NotEq (.lamw 14 [(7, .fld "row"), (14, .word "else")] none (.call 77 (.cons (.slot 7) .nil))) (.call 153 (.cons (.slot 7) (.cons (.con (.bool false)) .nil)))) (.cons (.ret (.con (.bool false))) .nil) .nil) .nil))))
/-- 155 law: _law_script_here _law_cell _law_well_here _law_turn _law_one _law_other _law_more _law_odd_here _law_rows _law_text_here _law_due_here -/
def b_law : ISs := .cons (.for_ (.nm 1) (.val (.slice (.bin .Add (.lst (.cons (.con (.int 0)) .nil)) (.slot 0)) .none (.some (.con (.int 6))))) l3_law) (.cons (.set 8 (.lst (.cons (.tup (.cons (.bin .Add (.bin .Mult (.con (.str "drop k\n")) (.con (.int 6))) (.con (.str "drop k"))) (.cons (.con (.int 8)) .nil))) (.cons (.tup (.cons (.con (.str "set k a\nset k b\nset k c\nset k d\nset k e")) (.cons (.con (.int 6)) .nil))) .nil)))) (.cons (.set 8 (.bin .Add (.slot 8) (.lst (.cons (.tup (.cons (.con (.str "drop  k")) (.cons (.con (.int 1)) .nil))) (.cons (.tup (.cons (.con (.str "\n")) (.cons (.con (.int 1)) .nil))) .nil))))) (.cons (.set 8 (.bin .Add (.slot 8) (.lst (.cons (.tup (.cons (.con (.str "swap k a a")) (.cons (.con (.int 1)) .nil))) (.cons (.tup (.cons (.con (.str "drop k\n")) (.cons (.con (.int 2)) .nil))) (.cons (.tup (.cons (.con (.str "add k a")) (.cons (.con (.int 1)) .nil))) (.cons (.tup (.cons (.con (.str "drop k\nDROP k")) (.cons (.con (.int 2)) .nil))) (.cons (.tup (.cons (.con (.str "set k a end")) (.cons (.con (.int 1)) .nil))) .nil)))))))) (.cons (.ife (.cmp .NotEq (.comp (.slot 9) (.tp [9, 10]) (.val (.slot 8)) (.some (.cmp .NotEq (.lamw 14 [(7, .fld "row"), (14, .word "else")] none (.call 73 (.cons (.slot 9) .nil))) (.slot 10))) [9, 10]) (.lst .nil)) (.cons (.ret (.con (.bool false))) .nil) .nil) (.cons (.set 8 (.lst (.cons (.tup (.cons (.bin .Add (.bin .Mult (.con (.str "k=a\n")) (.con (.int 40))) (.con (.str "k=a"))) (.cons (.con (.int 42)) .nil))) (.cons (.tup (.cons (.con (.str "k=")) (.cons (.con (.int 1)) .nil))) (.cons (.tup (.cons (.con (.str "=a")) (.cons (.con (.int 1)) .nil))) (.cons (.tup (.cons (.con (.str "k=a=b")) (.cons (.con (.int 1)) .nil))) (.cons (.tup (.cons (.con (.str "##k=a")) (.cons (.con (.int 1)) .nil))) (.cons (.tup (.cons (.con (.str "# k=a")) (.cons (.con (.int 1)) .nil))) .nil)))))))) (.cons (.set 8 (.bin .Add (.slot 8) (.lst (.cons (.tup (.cons (.con (.str "k=a\n\nk=a")) (.cons (.con (.int 2)) .nil))) (.cons (.tup (.cons (.con (.str "ka")) (.cons (.con (.int 1)) .nil))) (.cons (.tup (.cons (.con (.str "k=a\n")) (.cons (.con (.int 2)) .nil))) .nil)))))) (.cons (.ret (.cmp .Eq (.comp (.slot 9) (.tp [9, 10]) (.val (.slot 8)) (.some (.cmp .NotEq (.lamw 14 [(7, .fld "row"), (14, .word "else")] none (.call 77 (.cons (.slot 9) .nil))) (.slot 10))) [9, 10]) (.lst .nil))) .nil)))))))
def d_law : DefJ := ⟨1, 11, b_law⟩
def j_law : DJ := ⟨"law", top 43, ["_law_script_here", "_law_cell", "_law_well_here", "_law_turn", "_law_one", "_law_other", "_law_more", "_law_odd_here", "_law_rows", "_law_text_here", "_law_due_here"], ["_law_script_here"], b_law⟩
def j__law_told : DJ := ⟨"_law_told", top 39, ["_law_call", "refused"], ["_law_call"], .nil⟩
def x_WrongText : OxD := ⟨"WrongText", "row", "LineError", (match top 2 with | .ClassDef _ _ _ b _ _ _ _ _ _ _ => b.getD 0 (.Pass ⟨0, 0, 0, 0⟩) | s => s), ["self", "row"], "self", "row"⟩
def D : TopD where
  defs := [some j_is_label, some j_is_line, some j_is_file, some j_form_of, some j_is_step, some j_named_by, some j_keys_of, some j_is_script, none, none, none, none, none, none, none, none, none, none, none, none, none, none, none, none, none, none, none, none, none, none, none, none, none, none, none, none, none, none, none, none, none, none, none, none, none, none, none, none, none, none, none, none, none, none, none, none, none, none, none, none, none, none, none, none, none, none, none, none, none, none, none, none, some j_rows_in, some j_read_script, none, none, some j_line_in, some j_read_file, none, none, none, none, none, none, none, none, none, none, none, none, none, none, none, none, none, none, none, none, none, none, none, none, none, none, none, none, none, none, none, none, none, none, none, none, none, none, none, none, none, none, some j__law_well, some j__law_pull, some j__law_out, some j__law_step, some j__law_script, some j__law_line, some j__law_file, some j__law_is_label, some j__law_is_line, some j__law_is_file, some j__law_values_named, some j__law_is_step, some j__law_is_script, none, none, none, some j__law_odd, none, none, none, none, none, none, none, none, none, none, none, none, none, some j__law_text, some j__law_file_text, some j__law_line_of, some j__law_due, some j__law_spoilt, some j_law]
  gl := [some ("MOST_LINES", .int 40), some ("MOST_STEPS", .int 6), some ("MOST_NAMED", .int 4), some ("PLACES", .tuple [.str "end", .str "top"]), none, none, none, none, none]
  di := [some ("FORMS", [("set", .str "kv"), ("add", .str "kvp"), ("only", .str "kv"), ("first", .str "k"), ("last", .str "k"), ("drop", .str "k"), ("purge", .str "k")])]
  bl := ["isinstance", "str", "len", "all", "bool", "tuple", "zip", "sorted", "set", "list", "enumerate", "int", "range"]
  ex := [none, none, none, none, none, none, none, none, none, none, none, none, none, none, some "LineError"]
  ox := [none, none, none, none, none, none, none, some x_WrongText, none, none, none, none, none, none, none]
  lm := [["_law_script_here", "_law_cell", "_law_well_here", "_law_turn", "_law_one", "_law_other", "_law_more", "_law_odd_here", "_law_rows", "_law_text_here", "_law_due_here"]]
  wl := [(j__law_told, [(7, .fld "row"), (14, .word "else")], none)]
  top := 14
end T
end

section
set_option maxRecDepth 100000
/-! M1: the plain laws: running the small language. -/
namespace J
open PySem PySem.Spec
open L2 (atI ixN cutV atI_nat)
section
variable {ds : List (Option DefJ)} {g : Glb}
theorem callJ_at {j n : Nat} {d : DefJ} {xs : List SV} {st : Store} (h : ds[j]? = some (some d)) (hl : xs.length = d.ps) : callJ ds g (n + 1) j xs st = runDef (callJ ds g n) g d xs st := by
  show (match ds[j]? with | some (some d) => if xs.length = d.ps then runDef (callJ ds g n) g d xs st else .bad | _ => .bad) = _
  rw [h]
  simp [hl]
end
theorem compJ_map {body : PV → Store → Res (Option PV)} {f : PV → Option PV} {st : Store} : ∀ {items acc : List PV}, (∀ x ∈ items, body x st = .ok (f x) st) → compJ body items acc st = .ok (acc ++ items.filterMap f) st
  | [], acc, _ => by simp [compJ]
  | x :: xs, acc, h => by
    have h1 := h x List.mem_cons_self
    have ih := fun a => compJ_map (items := xs) (acc := a) fun y hy => h y (List.mem_cons_of_mem _ hy)
    unfold compJ
    rw [h1, List.filterMap_cons]
    cases f x with
    | none => exact ih acc
    | some y => simp only [ih, List.append_assoc, List.singleton_append]
theorem compF_eq {elt : FE} {tg : Tg} {it : FI} {cond : Envr → Store → Res Bool} {own : List Nat} {η : Envr} {st : Store} {items : List PV} (f : PV → Option PV) (hi : it η st = .ok items st) (h : ∀ x ∈ items, compB elt cond tg own η x st = .ok (f x) st) (hl : items.length ≤ line) :
    compF elt tg it cond own η st = .ok (.pv (.list (items.filterMap f))) st := by
  unfold compF
  rw [hi]
  simp only [Res.bind]
  rw [compJ_map h]
  simp only [Res.bind, List.nil_append]
  rw [if_pos (Nat.le_trans (List.length_filterMap_le _ _) hl)]
theorem compF_map {elt : FE} {tg : Tg} {it : FI} {cond : Envr → Store → Res Bool} {own : List Nat} {η : Envr} {st : Store} {items : List PV} (f : PV → PV) (hi : it η st = .ok items st) (h : ∀ x ∈ items, compB elt cond tg own η x st = .ok (some (f x)) st) (hl : items.length ≤ line) :
    compF elt tg it cond own η st = .ok (.pv (.list (items.map f))) st := by
  rw [compF_eq (fun x => some (f x)) hi h hl]
  simp
theorem compF_typed {γ : Type} {elt : FE} {tg : Tg} {it : FI} {cond : Envr → Store → Res Bool} {own : List Nat} {η : Envr} {st : Store} (xs : List γ) (enc : γ → PV) (f : γ → Option PV) (hi : it η st = .ok (xs.map enc) st) (h : ∀ x ∈ xs, compB elt cond tg own η (enc x) st = .ok (f x) st) (hl : xs.length ≤ line) :
    compF elt tg it cond own η st = .ok (.pv (.list (xs.filterMap f))) st := by
  have key : ∀ (xs : List γ) (acc : List PV), (∀ x ∈ xs, compB elt cond tg own η (enc x) st = .ok (f x) st) → compJ (compB elt cond tg own η) (xs.map enc) acc st = .ok (acc ++ xs.filterMap f) st := by
    intro xs
    induction xs with
    | nil => intro acc _; simp [compJ]
    | cons x xs ih =>
      intro acc h
      have h1 := h x List.mem_cons_self
      have ih := fun a => ih a fun y hy => h y (List.mem_cons_of_mem _ hy)
      rw [List.map_cons]
      unfold compJ
      rw [h1, List.filterMap_cons]
      cases f x with
      | none => exact ih acc
      | some y => simp only [ih, List.append_assoc, List.singleton_append]
  unfold compF
  rw [hi]
  simp only [Res.bind]
  rw [key xs [] h]
  simp only [Res.bind, List.nil_append]
  rw [if_pos (Nat.le_trans (List.length_filterMap_le _ _) hl)]
theorem compF_tmap {γ : Type} {elt : FE} {tg : Tg} {it : FI} {cond : Envr → Store → Res Bool} {own : List Nat} {η : Envr} {st : Store} (xs : List γ) (enc : γ → PV) (f : γ → PV) (hi : it η st = .ok (xs.map enc) st) (h : ∀ x ∈ xs, compB elt cond tg own η (enc x) st = .ok (some (f x)) st) (hl : xs.length ≤ line) :
    compF elt tg it cond own η st = .ok (.pv (.list (xs.map f))) st := by
  rw [compF_typed xs enc (fun x => some (f x)) hi h hl]
  simp
theorem asg_tp {is : List Nat} {xs : List PV} {η : Envr} : asgT (.tp is) (.pv (.tuple xs)) η = setAll η is xs := rfl
theorem setAll_cons {η : Envr} {i : Nat} {is : List Nat} {x : PV} {xs : List PV} : setAll η (i :: is) (x :: xs) = setAll (η.set i (some (.pv x))) is xs := rfl
theorem setAll_nil {η : Envr} : setAll η [] [] = some η := rfl
theorem asgS_cons {η : Envr} {i : Nat} {is : List Nat} {x : SV} {xs : List SV} : setAllS η (i :: is) (x :: xs) = setAllS (η.set i (some x)) is xs := rfl
theorem asgS_nil {η : Envr} : setAllS η [] [] = some η := rfl
theorem filterMap_if {γ : Type} (p : γ → Bool) (e : γ → PV) : ∀ xs : List γ, xs.filterMap (fun x => if p x = true then some (e x) else none) = (xs.filter p).map e
  | [] => rfl
  | x :: xs => by
    rw [List.filterMap_cons, List.filter_cons]
    cases h : p x with
    | true => simp [filterMap_if p e xs]
    | false => simp [filterMap_if p e xs]
section
variable {body : PV → Envr → Store → RS} {x : PV} {xs : List PV} {η η' : Envr} {st st' : Store}
theorem loop_nil : loopJ body [] η st = .next η st := rfl
theorem loop_next (h : body x η st = .next η' st') : loopJ body (x :: xs) η st = loopJ body xs η' st' := by
  unfold loopJ; rw [h]; cases xs <;> rfl
theorem loop_cnt (h : body x η st = .cnt η' st') : loopJ body (x :: xs) η st = loopJ body xs η' st' := by
  unfold loopJ; rw [h]; cases xs <;> rfl
theorem loop_brk (h : body x η st = .brk η' st') : loopJ body (x :: xs) η st = .next η' st' := by
  unfold loopJ; rw [h]
theorem loop_ret {v : SV} (h : body x η st = .ret v st') : loopJ body (x :: xs) η st = .ret v st' := by
  unfold loopJ; rw [h]
theorem loop_exc {e : EV} (h : body x η st = .exc e η' st') : loopJ body (x :: xs) η st = .exc e η' st' := by
  unfold loopJ; rw [h]
end
/-- a loop that builds a list -/
theorem loop_acc {γ δ : Type} {body : PV → Envr → Store → RS} {st : Store} (enc : γ → PV) (F : γ → List δ) (P : List δ → Envr → Prop) (N : Nat) (hF : ∀ p, (F p).length ≤ 1) : ∀ {ps : List γ} {acc : List δ} {η : Envr},
    (∀ p ∈ ps, ∀ acc η, acc.length + 1 ≤ N → P acc η → ∃ η', P (acc ++ F p) η' ∧ body (enc p) η st = .next η' st) → acc.length + ps.length ≤ N → P acc η → ∃ η', P (acc ++ ps.flatMap F) η' ∧ loopJ body (ps.map enc) η st = .next η' st
  | [], acc, η, _, _, hP => ⟨η, by simpa using hP, rfl⟩
  | p :: ps, acc, η, h, hl, hP => by
    rw [List.length_cons] at hl
    obtain ⟨η', q1, q2⟩ := h p List.mem_cons_self acc η (by omega) hP
    have hf := hF p
    obtain ⟨η2, q3, q4⟩ := loop_acc enc F P N hF (ps := ps) (acc := acc ++ F p) (η := η') (fun x hx => h x (List.mem_cons_of_mem _ hx)) (by rw [List.length_append]; omega) q1
    exact ⟨η2, by rw [List.flatMap_cons, ← List.append_assoc]; exact q3, by rw [List.map_cons, loop_next q2]; exact q4⟩
/-- a loop that leaves at the first item that is not as wished -/
theorem loop_all {γ : Type} {body : PV → Envr → Store → RS} {st : Store} {v : SV} (enc : γ → PV) (ok : γ → Bool) (P : Envr → Prop) : ∀ {ps : List γ} {η : Envr},
    (∀ p ∈ ps, ∀ η, P η → (ok p = true → ∃ η', P η' ∧ body (enc p) η st = .next η' st) ∧ (ok p = false → body (enc p) η st = .ret v st)) → P η →
    (ps.all ok = true → ∃ η', P η' ∧ loopJ body (ps.map enc) η st = .next η' st) ∧ (ps.all ok = false → loopJ body (ps.map enc) η st = .ret v st)
  | [], η, _, hP => ⟨fun _ => ⟨η, hP, rfl⟩, fun h => by simp at h⟩
  | p :: ps, η, h, hP => by
    have h1 := h p List.mem_cons_self η hP
    rw [List.map_cons, List.all_cons]
    cases hp : ok p with
    | true =>
      obtain ⟨η', q1, q2⟩ := h1.1 hp
      have ih := loop_all enc ok P (ps := ps) (η := η') (fun x hx => h x (List.mem_cons_of_mem _ hx)) q1
      rw [loop_next q2, Bool.true_and]
      exact ih
    | false =>
      refine ⟨fun h => by simp at h, fun _ => loop_ret (h1.2 hp)⟩
/-- a loop that goes to its end -/
theorem loop_fold {γ σ : Type} {body : PV → Envr → Store → RS} {st : Store} (enc : γ → PV) (P : σ → Envr → Prop) (f : σ → γ → σ) : ∀ {ps : List γ} {s : σ} {η : Envr},
    (∀ p ∈ ps, ∀ s η, P s η → ∃ η', P (f s p) η' ∧ body (enc p) η st = .next η' st) → P s η → ∃ η', P (ps.foldl f s) η' ∧ loopJ body (ps.map enc) η st = .next η' st
  | [], s, η, _, hP => ⟨η, hP, rfl⟩
  | p :: ps, s, η, h, hP => by
    obtain ⟨η', q1, q2⟩ := h p List.mem_cons_self s η hP
    obtain ⟨η2, q3, q4⟩ := loop_fold enc P f (ps := ps) (s := f s p) (η := η') (fun x hx => h x (List.mem_cons_of_mem _ hx)) q1
    exact ⟨η2, q3, by rw [List.map_cons, loop_next q2]; exact q4⟩
theorem compB_nm {elt : FE} {cond : Envr → Store → Res Bool} {i : Nat} {own : List Nat} {η : Envr} {x : PV} {st : Store} : compB elt cond (.nm i) own η x st = (cond ((wipeJ η own).set i (some (.pv x))) st).bind fun b st => if b = true then (elt ((wipeJ η own).set i (some (.pv x))) st).bind fun y st => (asPV y st).bind fun v st => .ok (some v) st else .ok none st := rfl
theorem compB_tp2 {elt : FE} {cond : Envr → Store → Res Bool} {i j : Nat} {own : List Nat} {η : Envr} {x y : PV} {st : Store} : compB elt cond (.tp [i, j]) own η (.tuple [x, y]) st = (cond (((wipeJ η own).set i (some (.pv x))).set j (some (.pv y))) st).bind fun b st => if b = true then (elt (((wipeJ η own).set i (some (.pv x))).set j (some (.pv y))) st).bind fun y st => (asPV y st).bind fun v st => .ok (some v) st else .ok none st := rfl
theorem wipe_nil {η : Envr} : wipeJ η [] = η := rfl
theorem wipe_cons {η : Envr} {v : Nat} {vs : List Nat} : wipeJ η (v :: vs) = (wipeJ η vs).set v none := rfl
section
variable {α β : Type} {st : Store} {η : Envr}
theorem bind_ok {a : α} {k : α → Store → Res β} : (Res.ok a st).bind k = k a st := rfl
theorem bind_bad {k : α → Store → Res β} : (Res.bad : Res α).bind k = .bad := rfl
theorem bind_exc {e : EV} {k : α → Store → Res β} : (Res.exc e st : Res α).bind k = .exc e st := rfl
theorem thn_ok {a : α} {k : α → Store → RS} : (Res.ok a st).thn η k = k a st := rfl
theorem thn_exc {e : EV} {k : α → Store → RS} : (Res.exc e st : Res α).thn η k = .exc e η st := rfl
theorem thn_bad {k : α → Store → RS} : (Res.bad : Res α).thn η k = .bad := rfl
theorem seq_next {k : Envr → Store → RS} : (RS.next η st).seq k = k η st := rfl
theorem seq_ret {v : SV} {k : Envr → Store → RS} : (RS.ret v st).seq k = .ret v st := rfl
theorem seq_exc {e : EV} {k : Envr → Store → RS} : (RS.exc e η st).seq k = .exc e η st := rfl
theorem seq_brk {k : Envr → Store → RS} : (RS.brk η st).seq k = .brk η st := rfl
theorem seq_cnt {k : Envr → Store → RS} : (RS.cnt η st).seq k = .cnt η st := rfl
theorem asPV_pv {v : PV} : asPV (.pv v) st = .ok v st := rfl
theorem asPVs_nil : asPVs [] = some [] := rfl
theorem asPVs_cons {v : PV} {r : List SV} : asPVs (.pv v :: r) = (asPVs r).map (v :: ·) := rfl
theorem truS_bool {b : Bool} : truS (.pv (.bool b)) st = .ok b st := rfl
theorem truS_int {i : Int} : truS (.pv (.int i)) st = .ok (i != 0) st := rfl
theorem truS_str {y : Str} : truS (.pv (.str y)) st = .ok ((y.length : Int) != 0) st := rfl
theorem truS_list {xs : List PV} : truS (.pv (.list xs)) st = .ok (!xs.isEmpty) st := rfl
theorem truS_tuple {xs : List PV} : truS (.pv (.tuple xs)) st = .ok (!xs.isEmpty) st := rfl
theorem truS_none : truS (.pv .none) st = .ok false st := rfl
theorem liftV_some {v : PV} : liftV (some v) st = .ok (.pv v) st := rfl
theorem liftV_none : liftV none st = .bad := rfl
theorem liftB_some {b : Bool} : liftB (some b) st = .ok (.pv (.bool b)) st := rfl
theorem con_none : conF .none η st = .ok (.pv .none) st := rfl
theorem con_bool {b : Bool} : conF (.bool b) η st = .ok (.pv (.bool b)) st := rfl
theorem con_int {i : Int} : conF (.int i) η st = .ok (.pv (.int i)) st := rfl
theorem con_str {s : Str} : conF (.str s) η st = .ok (.pv (.str s)) st := rfl
theorem slot_0 {x : SV} {r : Envr} : slotF 0 (some x :: r) st = .ok x st := rfl
theorem slot_1 {x : SV} {a : Option SV} {r : Envr} : slotF 1 (a :: some x :: r) st = .ok x st := rfl
theorem slot_2 {x : SV} {a b : Option SV} {r : Envr} : slotF 2 (a :: b :: some x :: r) st = .ok x st := rfl
theorem slot_3 {x : SV} {a b c : Option SV} {r : Envr} : slotF 3 (a :: b :: c :: some x :: r) st = .ok x st := rfl
theorem slot_4 {x : SV} {a b c d : Option SV} {r : Envr} : slotF 4 (a :: b :: c :: d :: some x :: r) st = .ok x st := rfl
theorem slot_5 {x : SV} {a b c d e : Option SV} {r : Envr} : slotF 5 (a :: b :: c :: d :: e :: some x :: r) st = .ok x st := rfl
theorem slot_6 {x : SV} {a b c d e f : Option SV} {r : Envr} : slotF 6 (a :: b :: c :: d :: e :: f :: some x :: r) st = .ok x st := rfl
theorem slot_7 {x : SV} {a b c d e f h : Option SV} {r : Envr} : slotF 7 (a :: b :: c :: d :: e :: f :: h :: some x :: r) st = .ok x st := rfl
theorem slot_8 {x : SV} {a b c d e f h i : Option SV} {r : Envr} : slotF 8 (a :: b :: c :: d :: e :: f :: h :: i :: some x :: r) st = .ok x st := rfl
theorem slot_9 {x : SV} {y0 y1 y2 y3 y4 y5 y6 y7 y8 : Option SV} {r : Envr} : slotF 9 (y0 :: y1 :: y2 :: y3 :: y4 :: y5 :: y6 :: y7 :: y8 :: some x :: r) st = .ok x st := rfl
theorem slot_10 {x : SV} {y0 y1 y2 y3 y4 y5 y6 y7 y8 y9 : Option SV} {r : Envr} : slotF 10 (y0 :: y1 :: y2 :: y3 :: y4 :: y5 :: y6 :: y7 :: y8 :: y9 :: some x :: r) st = .ok x st := rfl
theorem slot_11 {x : SV} {y0 y1 y2 y3 y4 y5 y6 y7 y8 y9 y10 : Option SV} {r : Envr} : slotF 11 (y0 :: y1 :: y2 :: y3 :: y4 :: y5 :: y6 :: y7 :: y8 :: y9 :: y10 :: some x :: r) st = .ok x st := rfl
theorem slot_12 {x : SV} {y0 y1 y2 y3 y4 y5 y6 y7 y8 y9 y10 y11 : Option SV} {r : Envr} : slotF 12 (y0 :: y1 :: y2 :: y3 :: y4 :: y5 :: y6 :: y7 :: y8 :: y9 :: y10 :: y11 :: some x :: r) st = .ok x st := rfl
theorem slot_13 {x : SV} {y0 y1 y2 y3 y4 y5 y6 y7 y8 y9 y10 y11 y12 : Option SV} {r : Envr} : slotF 13 (y0 :: y1 :: y2 :: y3 :: y4 :: y5 :: y6 :: y7 :: y8 :: y9 :: y10 :: y11 :: y12 :: some x :: r) st = .ok x st := rfl
theorem slot_14 {x : SV} {y0 y1 y2 y3 y4 y5 y6 y7 y8 y9 y10 y11 y12 y13 : Option SV} {r : Envr} : slotF 14 (y0 :: y1 :: y2 :: y3 :: y4 :: y5 :: y6 :: y7 :: y8 :: y9 :: y10 :: y11 :: y12 :: y13 :: some x :: r) st = .ok x st := rfl
theorem slot_15 {x : SV} {y0 y1 y2 y3 y4 y5 y6 y7 y8 y9 y10 y11 y12 y13 y14 : Option SV} {r : Envr} : slotF 15 (y0 :: y1 :: y2 :: y3 :: y4 :: y5 :: y6 :: y7 :: y8 :: y9 :: y10 :: y11 :: y12 :: y13 :: y14 :: some x :: r) st = .ok x st := rfl
theorem slot_16 {x : SV} {y0 y1 y2 y3 y4 y5 y6 y7 y8 y9 y10 y11 y12 y13 y14 y15 : Option SV} {r : Envr} : slotF 16 (y0 :: y1 :: y2 :: y3 :: y4 :: y5 :: y6 :: y7 :: y8 :: y9 :: y10 :: y11 :: y12 :: y13 :: y14 :: y15 :: some x :: r) st = .ok x st := rfl
theorem slot_17 {x : SV} {y0 y1 y2 y3 y4 y5 y6 y7 y8 y9 y10 y11 y12 y13 y14 y15 y16 : Option SV} {r : Envr} : slotF 17 (y0 :: y1 :: y2 :: y3 :: y4 :: y5 :: y6 :: y7 :: y8 :: y9 :: y10 :: y11 :: y12 :: y13 :: y14 :: y15 :: y16 :: some x :: r) st = .ok x st := rfl
theorem slot_18 {x : SV} {y0 y1 y2 y3 y4 y5 y6 y7 y8 y9 y10 y11 y12 y13 y14 y15 y16 y17 : Option SV} {r : Envr} : slotF 18 (y0 :: y1 :: y2 :: y3 :: y4 :: y5 :: y6 :: y7 :: y8 :: y9 :: y10 :: y11 :: y12 :: y13 :: y14 :: y15 :: y16 :: y17 :: some x :: r) st = .ok x st := rfl
theorem slot_19 {x : SV} {y0 y1 y2 y3 y4 y5 y6 y7 y8 y9 y10 y11 y12 y13 y14 y15 y16 y17 y18 : Option SV} {r : Envr} : slotF 19 (y0 :: y1 :: y2 :: y3 :: y4 :: y5 :: y6 :: y7 :: y8 :: y9 :: y10 :: y11 :: y12 :: y13 :: y14 :: y15 :: y16 :: y17 :: y18 :: some x :: r) st = .ok x st := rfl
theorem slot_20 {x : SV} {y0 y1 y2 y3 y4 y5 y6 y7 y8 y9 y10 y11 y12 y13 y14 y15 y16 y17 y18 y19 : Option SV} {r : Envr} : slotF 20 (y0 :: y1 :: y2 :: y3 :: y4 :: y5 :: y6 :: y7 :: y8 :: y9 :: y10 :: y11 :: y12 :: y13 :: y14 :: y15 :: y16 :: y17 :: y18 :: y19 :: some x :: r) st = .ok x st := rfl
theorem isi_none_str  : isiV .none "str" = false := rfl
theorem isi_none_tuple  : isiV .none "tuple" = false := rfl
theorem isi_none_bool  : isiV .none "bool" = false := rfl
theorem isi_none_int  : isiV .none "int" = false := rfl
theorem isi_none_list  : isiV .none "list" = false := rfl
theorem isi_bool_str {b : Bool} : isiV (.bool b) "str" = false := rfl
theorem isi_bool_tuple {b : Bool} : isiV (.bool b) "tuple" = false := rfl
theorem isi_bool_bool {b : Bool} : isiV (.bool b) "bool" = true := rfl
theorem isi_bool_int {b : Bool} : isiV (.bool b) "int" = true := rfl
theorem isi_bool_list {b : Bool} : isiV (.bool b) "list" = false := rfl
theorem isi_int_str {i : Int} : isiV (.int i) "str" = false := rfl
theorem isi_int_tuple {i : Int} : isiV (.int i) "tuple" = false := rfl
theorem isi_int_bool {i : Int} : isiV (.int i) "bool" = false := rfl
theorem isi_int_int {i : Int} : isiV (.int i) "int" = true := rfl
theorem isi_int_list {i : Int} : isiV (.int i) "list" = false := rfl
theorem isi_str_str {s : Str} : isiV (.str s) "str" = true := rfl
theorem isi_str_tuple {s : Str} : isiV (.str s) "tuple" = false := rfl
theorem isi_str_bool {s : Str} : isiV (.str s) "bool" = false := rfl
theorem isi_str_int {s : Str} : isiV (.str s) "int" = false := rfl
theorem isi_str_list {s : Str} : isiV (.str s) "list" = false := rfl
theorem isi_list_str {xs : List PV} : isiV (.list xs) "str" = false := rfl
theorem isi_list_tuple {xs : List PV} : isiV (.list xs) "tuple" = false := rfl
theorem isi_list_bool {xs : List PV} : isiV (.list xs) "bool" = false := rfl
theorem isi_list_int {xs : List PV} : isiV (.list xs) "int" = false := rfl
theorem isi_list_list {xs : List PV} : isiV (.list xs) "list" = true := rfl
theorem isi_tuple_str {xs : List PV} : isiV (.tuple xs) "str" = false := rfl
theorem isi_tuple_tuple {xs : List PV} : isiV (.tuple xs) "tuple" = true := rfl
theorem isi_tuple_bool {xs : List PV} : isiV (.tuple xs) "bool" = false := rfl
theorem isi_tuple_int {xs : List PV} : isiV (.tuple xs) "int" = false := rfl
theorem isi_tuple_list {xs : List PV} : isiV (.tuple xs) "list" = false := rfl
theorem isi_dict_str {d : List (PV × PV)} : isiV (.dict d) "str" = false := rfl
theorem isi_dict_tuple {d : List (PV × PV)} : isiV (.dict d) "tuple" = false := rfl
theorem isi_dict_bool {d : List (PV × PV)} : isiV (.dict d) "bool" = false := rfl
theorem isi_dict_int {d : List (PV × PV)} : isiV (.dict d) "int" = false := rfl
theorem isi_dict_list {d : List (PV × PV)} : isiV (.dict d) "list" = false := rfl
theorem len_str {s : Str} : biV .len (.str s) = some (.int s.length) := rfl
theorem len_lst {s : List PV} : biV .len (.list s) = some (.int s.length) := rfl
theorem len_tup {s : List PV} : biV .len (.tuple s) = some (.int s.length) := rfl
theorem tup_lst {s : List PV} : biV .tup (.list s) = some (.tuple s) := rfl
theorem tup_tup {s : List PV} : biV .tup (.tuple s) = some (.tuple s) := rfl
theorem lst_lst {s : List PV} : biV .lst (.list s) = some (.list s) := rfl
theorem lst_tup {s : List PV} : biV .lst (.tuple s) = some (.list s) := rfl
theorem int_int {i : Int} : biV .int (.int i) = some (.int i) := rfl
theorem le_int {i j : Int} : leP (.int i) (.int j) = some (decide (i ≤ j)) := rfl
theorem lt_int {i j : Int} : ltP (.int i) (.int j) = some (decide (i < j)) := rfl
theorem le_str {i j : Str} : leP (.str i) (.str j) = some (!decide (j.cps.toList < i.cps.toList)) := rfl
theorem add_int {i j : Int} : addV (.int i) (.int j) = some (.int (i + j)) := rfl
theorem sub_int {i j : Int} : subV (.int i) (.int j) = some (.int (i - j)) := rfl
theorem neg_int {i : Int} : negV (.int i) = some (.int (-i)) := rfl
theorem boolsOf_map {α : Type} {f : α → Bool} : ∀ xs : List α, boolsOf (xs.map fun x => PyData.bool (f x)) = some (xs.map f)
  | [] => rfl
  | x :: xs => by
    show (boolsOf (xs.map fun x => PyData.bool (f x))).map (f x :: ·) = _
    rw [boolsOf_map xs]; rfl
theorem all_map {α : Type} {f : α → Bool} (xs : List α) : biV .all (.list (xs.map fun x => PyData.bool (f x))) = some (.bool (xs.all f)) := by
  show (boolsOf _).map _ = _
  rw [boolsOf_map]
  simp
def endJ (n : Nat) : RS → Res SV
  | .next _ st' => exitJ n (.pv .none) st'
  | .ret v st' => exitJ n v st'
  | .exc e _ st' => .exc e (st'.take n)
  | _ => .bad
theorem runDef_eq {cs : Calls} {g : Glb} {d : DefJ} {xs : List SV} : runDef cs g d xs st = endJ st.length (evSs cs g d.body (startJ d.N xs) st) := by
  unfold runDef
  cases evSs cs g d.body (startJ d.N xs) st <;> rfl
theorem end_next {n : Nat} : endJ n (.next η st) = exitJ n (.pv .none) st := rfl
theorem end_ret {n : Nat} {v : SV} : endJ n (.ret v st) = exitJ n v st := rfl
theorem end_exc {n : Nat} {e : EV} : endJ n (.exc e η st) = .exc e (st.take n) := rfl
theorem ite_bind {c : Prop} [Decidable c] {a b : Res α} {k : α → Store → Res β} : (if c then a else b).bind k = if c then a.bind k else b.bind k := by split <;> rfl
theorem ite_thn {c : Prop} [Decidable c] {a b : Res α} {k : α → Store → RS} : (if c then a else b).thn η k = if c then a.thn η k else b.thn η k := by split <;> rfl
theorem ite_seq {c : Prop} [Decidable c] {a b : RS} {k : Envr → Store → RS} : (if c then a else b).seq k = if c then a.seq k else b.seq k := by split <;> rfl
theorem ite_end {n : Nat} {c : Prop} [Decidable c] {a b : RS} : endJ n (if c then a else b) = if c then endJ n a else endJ n b := by split <;> rfl
theorem eq_int {i j : Int} : eqP (.int i) (.int j) = some (decide (i = j)) := by
  show some (i == j) = _
  by_cases h : i = j <;> simp [h]
theorem eq_str {i j : Str} : eqP (.str i) (.str j) = some (decide (i = j)) := by
  show some (i == j) = _
  by_cases h : i = j <;> simp [h]
theorem eq_bool {i j : Bool} : eqP (.bool i) (.bool j) = some (decide (i = j)) := by
  show some (i == j) = _
  by_cases h : i = j <;> simp [h]
theorem eq_lst0 {xs : List PV} : eqP (.list xs) (.list []) = some xs.isEmpty := by
  unfold eqP
  rw [if_pos (by simp [dle])]
  cases xs <;> rfl
theorem eq_tup0 {xs : List PV} : eqP (.tuple xs) (.tuple []) = some xs.isEmpty := by
  unfold eqP
  rw [if_pos (by simp [dle])]
  cases xs <;> rfl
theorem idx_tup {xs : List PV} {i : Int} : idxV (.tuple xs) (.int i) = atI xs i := rfl
theorem idx_lst {xs : List PV} {i : Int} : idxV (.list xs) (.int i) = atI xs i := rfl
theorem at_0 {γ : Type} {x : γ} {r : List γ} : atI (x :: r) 0 = some x := atI_nat (j := 0) rfl
theorem at_1 {γ : Type} {x a : γ} {r : List γ} : atI (a :: x :: r) 1 = some x := atI_nat (j := 1) rfl
theorem at_2 {γ : Type} {x a b : γ} {r : List γ} : atI (a :: b :: x :: r) 2 = some x := atI_nat (j := 2) rfl
theorem at_3 {γ : Type} {x a b c : γ} {r : List γ} : atI (a :: b :: c :: x :: r) 3 = some x := atI_nat (j := 3) rfl
theorem line_3 : (3 : Nat) ≤ line := by unfold line; omega
theorem exit_pv {n : Nat} {v : PV} : exitJ n (.pv v) st = .ok (.pv v) (st.take n) := rfl
theorem take_st : st.take st.length = st := List.take_length
end
end J
end

local macro_rules | `(tactic| simp only [jev]) => `(tactic| simp only [J.ev, J.evs, J.evO, J.evC, J.evI, J.evS, J.evSs, J.seqS, J.retS, J.retNS, J.setS, J.setTS, J.parS, J.augS, J.iteS, J.dropS, J.raiseS, J.brkS, J.cntS, J.nextS, J.negF, J.binF, J.cmpF, J.chainF, J.isNF, J.andF, J.orF, J.notF, J.ifF, J.tupF, J.lstF, J.mlstF, J.idxF, J.sliF, J.partF, J.biF, J.isiF, J.nilF, J.consF, J.noneF, J.trueF, J.tst, J.valF, J.rngF, J.rng2F, J.enumF, J.zipF, J.callF, J.bind_ok, J.bind_bad, J.bind_exc, J.thn_ok, J.thn_exc, J.thn_bad, J.seq_next, J.seq_ret, J.seq_exc, J.seq_brk, J.seq_cnt, J.asPV_pv, J.asPVs_nil, J.asPVs_cons, Option.map_some, J.truS_bool, J.truS_int, J.truS_str, J.truS_list, J.truS_tuple, J.truS_none, J.liftV_some, J.liftV_none, J.liftB_some, J.con_none, J.con_bool, J.con_int, J.con_str, J.slot_0, J.slot_1, J.slot_2, J.slot_3, J.slot_4, J.slot_5, J.slot_6, J.slot_7, J.slot_8, J.slot_9, J.slot_10, J.slot_11, J.slot_12, J.slot_13, J.slot_14, J.slot_15, J.slot_16, J.slot_17, J.slot_18, J.slot_19, J.slot_20, J.isi_none_str, J.isi_none_tuple, J.isi_none_bool, J.isi_none_int, J.isi_none_list, J.isi_bool_str, J.isi_bool_tuple, J.isi_bool_bool, J.isi_bool_int, J.isi_bool_list, J.isi_int_str, J.isi_int_tuple, J.isi_int_bool, J.isi_int_int, J.isi_int_list, J.isi_str_str, J.isi_str_tuple, J.isi_str_bool, J.isi_str_int, J.isi_str_list, J.isi_list_str, J.isi_list_tuple, J.isi_list_bool, J.isi_list_int, J.isi_list_list, J.isi_tuple_str, J.isi_tuple_tuple, J.isi_tuple_bool, J.isi_tuple_int, J.isi_tuple_list, J.isi_dict_str, J.isi_dict_tuple, J.isi_dict_bool, J.isi_dict_int, J.isi_dict_list, J.len_str, J.len_lst, J.len_tup, J.tup_lst, J.tup_tup, J.lst_lst, J.lst_tup, J.int_int, J.le_int, J.lt_int, J.le_str, J.add_int, J.sub_int, J.neg_int, J.eq_int, J.eq_str, J.eq_bool, J.eq_lst0, J.eq_tup0, J.idx_tup, J.idx_lst, J.at_0, J.at_1, J.at_2, J.at_3, J.runDef_eq, J.end_next, J.end_ret, J.end_exc, J.ite_bind, J.ite_thn, J.ite_seq, J.ite_end, J.binV, J.exit_pv, J.take_st, J.asg_tp, J.setAll_cons, J.setAll_nil, J.asgS_cons, J.asgS_nil, J.wipe_nil, J.wipe_cons, J.line, Nat.reduceLeDiff, Nat.reduceLT, decide_true, decide_false, Bool.not_not, J.startJ, List.map_cons, List.map_nil, List.length_cons, List.length_nil, List.replicate_succ, List.replicate_zero, List.cons_append, List.nil_append, List.set_cons_zero, List.set_cons_succ, Nat.sub_self, Nat.succ_sub_succ_eq_sub, Nat.sub_zero, Nat.reduceSub, Nat.reduceAdd, if_true, if_false, Bool.false_eq_true, Bool.true_eq_false, J.cmpV, J.isNon, Bool.not_true, Bool.not_false, ite_true, ite_false, reduceIte])
local macro_rules | `(tactic| simp only [jevw, $ts,*]) => `(tactic| simp only [J.ev, J.evs, J.evO, J.evC, J.evI, J.evS, J.evSs, J.seqS, J.retS, J.retNS, J.setS, J.setTS, J.parS, J.augS, J.iteS, J.dropS, J.raiseS, J.brkS, J.cntS, J.nextS, J.negF, J.binF, J.cmpF, J.chainF, J.isNF, J.andF, J.orF, J.notF, J.ifF, J.tupF, J.lstF, J.mlstF, J.idxF, J.sliF, J.partF, J.biF, J.isiF, J.nilF, J.consF, J.noneF, J.trueF, J.tst, J.valF, J.rngF, J.rng2F, J.enumF, J.zipF, J.callF, J.bind_ok, J.bind_bad, J.bind_exc, J.thn_ok, J.thn_exc, J.thn_bad, J.seq_next, J.seq_ret, J.seq_exc, J.seq_brk, J.seq_cnt, J.asPV_pv, J.asPVs_nil, J.asPVs_cons, Option.map_some, J.truS_bool, J.truS_int, J.truS_str, J.truS_list, J.truS_tuple, J.truS_none, J.liftV_some, J.liftV_none, J.liftB_some, J.con_none, J.con_bool, J.con_int, J.con_str, J.slot_0, J.slot_1, J.slot_2, J.slot_3, J.slot_4, J.slot_5, J.slot_6, J.slot_7, J.slot_8, J.slot_9, J.slot_10, J.slot_11, J.slot_12, J.slot_13, J.slot_14, J.slot_15, J.slot_16, J.slot_17, J.slot_18, J.slot_19, J.slot_20, J.isi_none_str, J.isi_none_tuple, J.isi_none_bool, J.isi_none_int, J.isi_none_list, J.isi_bool_str, J.isi_bool_tuple, J.isi_bool_bool, J.isi_bool_int, J.isi_bool_list, J.isi_int_str, J.isi_int_tuple, J.isi_int_bool, J.isi_int_int, J.isi_int_list, J.isi_str_str, J.isi_str_tuple, J.isi_str_bool, J.isi_str_int, J.isi_str_list, J.isi_list_str, J.isi_list_tuple, J.isi_list_bool, J.isi_list_int, J.isi_list_list, J.isi_tuple_str, J.isi_tuple_tuple, J.isi_tuple_bool, J.isi_tuple_int, J.isi_tuple_list, J.isi_dict_str, J.isi_dict_tuple, J.isi_dict_bool, J.isi_dict_int, J.isi_dict_list, J.len_str, J.len_lst, J.len_tup, J.tup_lst, J.tup_tup, J.lst_lst, J.lst_tup, J.int_int, J.le_int, J.lt_int, J.le_str, J.add_int, J.sub_int, J.neg_int, J.eq_int, J.eq_str, J.eq_bool, J.eq_lst0, J.eq_tup0, J.idx_tup, J.idx_lst, J.at_0, J.at_1, J.at_2, J.at_3, J.runDef_eq, J.end_next, J.end_ret, J.end_exc, J.ite_bind, J.ite_thn, J.ite_seq, J.ite_end, J.binV, J.exit_pv, J.take_st, J.asg_tp, J.setAll_cons, J.setAll_nil, J.asgS_cons, J.asgS_nil, J.wipe_nil, J.wipe_cons, J.line, Nat.reduceLeDiff, Nat.reduceLT, decide_true, decide_false, Bool.not_not, J.startJ, List.map_cons, List.map_nil, List.length_cons, List.length_nil, List.replicate_succ, List.replicate_zero, List.cons_append, List.nil_append, List.set_cons_zero, List.set_cons_succ, Nat.sub_self, Nat.succ_sub_succ_eq_sub, Nat.sub_zero, Nat.reduceSub, Nat.reduceAdd, if_true, if_false, Bool.false_eq_true, Bool.true_eq_false, J.cmpV, J.isNon, Bool.not_true, Bool.not_false, ite_true, ite_false, reduceIte, $ts,*])
section
set_option maxRecDepth 100000
namespace J
open PySem PySem.Spec
open L2 (atI ixN cutV atI_nat)
end J
namespace P
open PySem PySem.Spec J
open L2 (atI ixN atI_nat)
/-- small letters -/
def lowS (c : Nat) : Bool := decide (97 ≤ c) && decide (c ≤ 122)
def lab (s : Str) : Bool := decide (1 ≤ s.length) && decide (s.length ≤ 8) && s.cps.toList.all lowS
def labP : PV → Bool
  | .str s => lab s
  | _ => false
section
variable {ds : List (Option DefJ)} {g : Glb}
theorem one_lt (a b : Nat) : ([a] : List Nat) < [b] ↔ a < b := by
  rw [List.cons_lt_cons_iff]
  simp
theorem one_lo (c : Nat) : (!decide ((⟨#[c]⟩ : Str).cps.toList < ("a" : Str).cps.toList)) = decide (97 ≤ c) := by
  have h1 : ("a" : Str).cps.toList = [97] := by decide +kernel
  have h2 : (⟨#[c]⟩ : Str).cps.toList = [c] := rfl
  rw [h1, h2, Bool.eq_iff_iff]
  simp only [Bool.not_eq_true', decide_eq_false_iff_not, decide_eq_true_eq, one_lt]
  omega
theorem one_hi (c : Nat) : (!decide (("z" : Str).cps.toList < (⟨#[c]⟩ : Str).cps.toList)) = decide (c ≤ 122) := by
  have h1 : ("z" : Str).cps.toList = [122] := by decide +kernel
  have h2 : (⟨#[c]⟩ : Str).cps.toList = [c] := rfl
  rw [h1, h2, Bool.eq_iff_iff]
  simp only [Bool.not_eq_true', decide_eq_false_iff_not, decide_eq_true_eq, one_lt]
  omega
def signB : PV → PV := fun v => .bool (match v with | .str ⟨a⟩ => lowS (a.getD 0 0) | _ => false)
theorem is_label_eq (h0 : ds[0]? = some (some d_is_label)) (n : Nat) (v : PV) (st : Store) : callJ ds g (n + 1) 0 [.pv v] st = .ok (.pv (.bool (labP v))) st := by
  rw [callJ_at h0 rfl]
  unfold d_is_label b_is_label
  cases v with
  | str s =>
    simp only [jev]
    unfold labP lab
    by_cases h1 : 1 ≤ (s.length : Int)
    · have h1' : 1 ≤ s.length := by omega
      by_cases h2 : (s.length : Int) ≤ 8
      · have h2' : s.length ≤ 8 := by omega
        simp only [h1, h2, h1', h2', decide_true, Bool.true_and]
        simp only [jev]
        have hz : (signs s).length ≤ line := by
          have e : (signs s).length = s.length := by unfold signs; rw [List.length_map]; rfl
          rw [e]; unfold line; omega
        rw [compF_map (items := signs s) signB rfl (fun x hx => ?_) hz]
        · simp only [jev]
          have : (signs s).map signB = s.cps.toList.map fun c => PyData.bool (lowS c) := by
            unfold signs
            rw [List.map_map]
            rfl
          rw [this, all_map]
          simp only [jev]
        · obtain ⟨c, _, rfl⟩ := List.mem_map.mp hx
          rw [compB_nm]
          simp only [jev]
          rw [one_lo]
          by_cases q : 97 ≤ c
          · simp only [q, decide_true]
            simp only [jev]
            rw [one_hi]
            simp [signB, lowS, q]
          · simp only [q, decide_false]
            simp only [jev]
            simp [signB, lowS, q]
      · have h2' : ¬ s.length ≤ 8 := by omega
        simp only [h1, h2, h1', h2', decide_true, decide_false, Bool.true_and, Bool.false_and]
        simp only [jev]
    · have h1' : ¬ 1 ≤ s.length := by omega
      simp only [h1, h1', decide_false, Bool.false_and]
      simp only [jev]
  | _ => simp only [jev]; rfl
end
end P
end

section
set_option maxRecDepth 100000
/-! M2: what the package knows: lines, files, steps, scripts. -/
namespace P
open PySem PySem.Spec J
open L2 (atI ixN atI_nat)
section
variable {ds : List (Option DefJ)} {g : Glb}
/-! ### is_line, is_file -/
def isBl : PV → Bool
  | .bool _ => true
  | _ => false
def linP : PV → Bool
  | .tuple [a, b, c] => labP a && labP b && isBl c
  | _ => false
theorem isBl_eq (v : PV) : isiV v "bool" = isBl v := by cases v <;> rfl
theorem is_line_eq (h0 : ds[0]? = some (some d_is_label)) (h1 : ds[1]? = some (some d_is_line)) (n : Nat) (v : PV) (st : Store) : callJ ds g (n + 2) 1 [.pv v] st = .ok (.pv (.bool (linP v))) st := by
  rw [callJ_at h1 rfl]
  unfold d_is_line b_is_line
  have L := fun v st => is_label_eq (g := g) h0 n v st
  cases v with
  | tuple xs =>
    match xs with
    | [a, b, c] =>
      simp only [jevw, L, isBl_eq]
      unfold linP
      by_cases ha : labP a = true <;> by_cases hb : labP b = true <;> simp [ha, hb]
    | [] => simp only [jev]; rfl
    | [a] => simp only [jev]; rfl
    | [a, b] => simp only [jev]; rfl
    | a :: b :: c :: d :: r =>
      simp only [jev]
      have : ¬ ((r.length + 1 + 1 + 1 + 1 : Nat) : Int) = 3 := by omega
      simp only [this, decide_false]
      simp only [jev]
      rfl
  | _ => simp only [jev]; rfl
def filP : PV → Bool
  | .tuple xs => decide (xs.length ≤ 40) && xs.all linP
  | _ => false
theorem is_file_eq (h0 : ds[0]? = some (some d_is_label)) (h1 : ds[1]? = some (some d_is_line)) (h2 : ds[2]? = some (some d_is_file)) (g0 : g.glob[0]? = some (.int 40)) (n : Nat) (v : PV) (st : Store) : callJ ds g (n + 3) 2 [.pv v] st = .ok (.pv (.bool (filP v))) st := by
  rw [callJ_at h2 rfl]
  unfold d_is_file b_is_file
  have L := fun v st => is_line_eq (g := g) h0 h1 n v st
  cases v with
  | tuple xs =>
    simp only [jev]
    simp only [globF, g0]
    simp only [jev]
    by_cases h : (xs.length : Int) ≤ 40
    · have h' : xs.length ≤ 40 := by omega
      simp only [h, decide_true]
      simp only [jev]
      rw [compF_map (items := xs) (fun v => .bool (linP v)) rfl (fun x hx => ?_) (by unfold line; omega)]
      · simp only [jev]
        rw [all_map]
        simp only [jev]
        simp [filP, h']
      · rw [compB_nm]
        simp only [jevw, L]
    · have h' : ¬ xs.length ≤ 40 := by omega
      simp only [h, decide_false]
      simp only [jev]
      simp [filP, h']
  | _ => simp only [jev]; rfl
end
end P
end

section
set_option maxRecDepth 100000
/-! M3: steps. -/
namespace P
open PySem PySem.Spec J
open L2 (atI ixN atI_nat)
def formsD : List (Str × PV) := [("set", .str "kv"), ("add", .str "kvp"), ("only", .str "kv"), ("first", .str "k"), ("last", .str "k"), ("drop", .str "k"), ("purge", .str "k")]
def placesV : PV := .tuple [.str "end", .str "top"]
def formsS : List (Str × Str) := [("strike", "k"), ("swap", "kvv"), ("set", "kv"), ("add", "kvp"), ("only", "kv"), ("first", "k"), ("last", "k"), ("drop", "k"), ("purge", "k")]
def formS (w : Str) : Option Str := formsS.lookup w
def optS : Option Str → PV
  | some s => .str s
  | none => .none
def formV (w : Str) : PV := optS (formS w)
theorem lookup_none {β : Type} {w : Str} : ∀ {l : List (Str × β)}, w ∉ l.map (·.1) → l.lookup w = none
  | [], _ => rfl
  | (k, v) :: r, h => by
    simp only [List.map_cons, List.mem_cons, not_or] at h
    rw [List.lookup_cons, beq_eq_false_iff_ne.mpr h.1]
    exact lookup_none h.2
def nine : List Str := ["set", "add", "only", "first", "last", "drop", "purge", "strike", "swap"]
theorem formV_eq (w : Str) : formV w = if w = "strike" then .str "k" else if w = "swap" then .str "kvv" else (formsD.lookup w).getD .none := by
  by_cases h : w ∈ nine
  · unfold nine at h
    simp only [List.mem_cons, List.not_mem_nil, or_false] at h
    rcases h with rfl | rfl | rfl | rfl | rfl | rfl | rfl | rfl | rfl <;> rfl
  · have h2 : formsS.lookup w = none := lookup_none fun q => h (by
      unfold formsS at q
      unfold nine
      simp only [List.map_cons, List.map_nil, List.mem_cons, List.not_mem_nil, or_false] at q ⊢
      rcases q with q | q | q | q | q | q | q | q | q <;> simp [q])
    have h3 : formsD.lookup w = none := lookup_none fun q => h (by
      unfold formsD at q
      unfold nine
      simp only [List.map_cons, List.map_nil, List.mem_cons, List.not_mem_nil, or_false] at q ⊢
      rcases q with q | q | q | q | q | q | q <;> simp [q])
    have h4 : w ≠ "strike" := fun q => h (by rw [q]; decide)
    have h5 : w ≠ "swap" := fun q => h (by rw [q]; decide)
    unfold formV formS
    rw [h2, h3, if_neg h4, if_neg h5]
    rfl
theorem eqv_ss (a b : Str) : PyData.eqv (.str a) (.str b) = decide (a = b) := by
  show (a == b) = _
  by_cases h : a = b <;> simp [h]
theorem in_strs (w : Str) (ss : List Str) : inP (.str w) (.tuple (ss.map .str)) = some (decide (w ∈ ss)) := by
  show (if dle 8 (.str w) = true then some _ else none) = _
  rw [if_pos (by simp [dle])]
  congr 1
  rw [List.any_map]
  rw [Bool.eq_iff_iff]
  simp only [List.any_eq_true, Function.comp, eqv_ss, decide_eq_true_eq]
  constructor
  · rintro ⟨x, h, rfl⟩; exact h
  · intro h; exact ⟨w, h, rfl⟩
theorem in_2 (w a b : Str) : inP (.str w) (.tuple [.str a, .str b]) = some (decide (w ∈ [a, b])) := in_strs w [a, b]
section
variable {ds : List (Option DefJ)} {g : Glb}
theorem form_of_eq (h3 : ds[3]? = some (some d_form_of)) (d0 : g.dict[0]? = some formsD) (n : Nat) (w : Str) (st : Store) : callJ ds g (n + 1) 3 [.pv (.str w)] st = .ok (.pv (formV w)) st := by
  rw [callJ_at h3 rfl]
  unfold d_form_of b_form_of
  simp only [jevw, in_2, d0, ggetF]
  rw [formV_eq]
  by_cases h1 : w = "strike"
  · subst h1; simp
  · by_cases h2 : w = "swap"
    · subst h2; simp [h1]
    · simp only [h1, h2, List.mem_cons, List.not_mem_nil, or_self, decide_false]
      simp only [jev]
end
end P
end

section
set_option maxRecDepth 100000
/-! M4: is_step. -/
namespace P
open PySem PySem.Spec J
open L2 (atI ixN atI_nat)
def plcP : PV → Bool
  | .str s => decide (s ∈ (["end", "top"] : List Str))
  | _ => false
def stepP : PV → Bool
  | .tuple [.str w, k] => decide (w ∈ (["first", "last", "drop", "purge", "strike"] : List Str)) && labP k
  | .tuple [.str w, k, v] => decide (w ∈ (["set", "only"] : List Str)) && labP k && labP v
  | .tuple [.str w, k, v, x] => (decide (w = "add") && labP k && labP v && plcP x) || (decide (w = "swap") && labP k && labP v && labP x && !PyData.eqv v x)
  | _ => false
theorem form_cases (w : Str) : w ∈ nine ∨ (w ∉ nine ∧ formS w = none) := by
  by_cases h : w ∈ nine
  · exact .inl h
  · refine .inr ⟨h, lookup_none fun q => h (by
      unfold formsS at q
      unfold nine
      simp only [List.map_cons, List.map_nil, List.mem_cons, List.not_mem_nil, or_false] at q ⊢
      rcases q with q | q | q | q | q | q | q | q | q <;> simp [q])⟩
section
variable {ds : List (Option DefJ)} {g : Glb}
def partB (s x : PV) : Bool := match s with
  | .str s => if s = "p" then plcP x else labP x
  | _ => false
theorem bodyStep (h0 : ds[0]? = some (some d_is_label)) (g3 : g.glob[3]? = some placesV) (n : Nat) (a b : Option SV) (u v : Option SV) (s : Str) (x : PV) (st : Store) :
    forBd (.tp [2, 3]) (evSs (callJ ds g (n + 1)) g l1_is_step) (.tuple [.str s, x]) [a, b, u, v] st = if partB (.str s) x = true then .next [a, b, some (.pv (.str s)), some (.pv x)] st else .ret (.pv (.bool false)) st := by
  unfold l1_is_step
  have L := fun v st => is_label_eq (g := g) h0 n v st
  show evSs _ _ _ (((([a, b, u, v] : Envr).set 2 (some (.pv (.str s)))).set 3 (some (.pv x)))) st = _
  by_cases hs : s = "p"
  · subst hs
    cases x with
    | str z =>
      simp only [jevw, globF, g3, placesV, in_2]
      by_cases q : z ∈ (["end", "top"] : List Str)
      · simp [q, partB, plcP]
      · simp [q, partB, plcP]
    | _ => simp only [jev]; rfl
  · simp only [jevw, hs, L, partB]
    cases labP x <;> simp
end
end P
end

section
set_option maxRecDepth 100000
/-! M5: is_step, whole. -/
namespace P
open PySem PySem.Spec J
open L2 (atI ixN atI_nat)
def pairV (p : Str × PV) : PV := .tuple [.str p.1, p.2]
theorem signs_kv : signs "kv" = [.str "k", .str "v"] := rfl
theorem signs_kvp : signs "kvp" = [.str "k", .str "v", .str "p"] := rfl
theorem signs_kvv : signs "kvv" = [.str "k", .str "v", .str "v"] := rfl
theorem signs_k : signs "k" = [.str "k"] := rfl
section
variable {ds : List (Option DefJ)} {g : Glb}
theorem loopStep (h0 : ds[0]? = some (some d_is_label)) (g3 : g.glob[3]? = some placesV) (n : Nat) (a b : Option SV) (st : Store) (ps : List (Str × PV)) :
    (ps.all (fun p => partB (.str p.1) p.2) = true → ∃ η', (∃ u v, η' = [a, b, u, v]) ∧ loopJ (forBd (.tp [2, 3]) (evSs (callJ ds g (n + 1)) g l1_is_step)) (ps.map pairV) [a, b, none, none] st = .next η' st) ∧
    (ps.all (fun p => partB (.str p.1) p.2) = false → loopJ (forBd (.tp [2, 3]) (evSs (callJ ds g (n + 1)) g l1_is_step)) (ps.map pairV) [a, b, none, none] st = .ret (.pv (.bool false)) st) := by
  refine loop_all pairV (fun p => partB (.str p.1) p.2) (fun η => ∃ u v, η = [a, b, u, v]) (fun p _ η hη => ?_) ⟨none, none, rfl⟩
  obtain ⟨u, v, rfl⟩ := hη
  have B := bodyStep h0 g3 n a b u v p.1 p.2 st
  constructor
  · intro h
    rw [h, if_pos rfl] at B
    exact ⟨_, ⟨_, _, rfl⟩, B⟩
  · intro h
    rw [h, if_neg (by decide)] at B
    exact B
theorem sli_tup {xs : List PV} {lo hi : Option Int} : sliV (.tuple xs) lo hi = some (.tuple (cutL xs lo hi)) := rfl
theorem cut_1 {α : Type} {x : α} {r : List α} : cutL (x :: r) (some 1) none = r := by
  unfold cutL
  rw [HT.sIx_none, show (some (1 : Int)) = some ((1 : Nat) : Int) from rfl, HT.sIx_nat _ _ 1]
  simp
theorem zip_map (ss : List Str) (r : List PV) : zipL (ss.map .str) r = (ss.zip r).map pairV := by
  unfold zipL
  rw [List.zip_map_left, List.map_map]
  rfl
theorem is_step_nine (h0 : ds[0]? = some (some d_is_label)) (h3 : ds[3]? = some (some d_form_of)) (h4 : ds[4]? = some (some d_is_step)) (g3 : g.glob[3]? = some placesV) (d0 : g.dict[0]? = some formsD) (n : Nat) (w f : Str) (ss : List Str) (r : List PV) (st : Store)
    (hw : formV w = .str f) (hf : signs f = ss.map .str) (hl : f.length = ss.length) (h2 : w = "swap" → r.length = ss.length → (ss.zip r).all (fun p => partB (.str p.1) p.2) = true → ∃ k x y, r = [k, x, y] ∧ dle 8 x = true) :
    callJ ds g (n + 2) 4 [.pv (.tuple (.str w :: r))] st = .ok (.pv (.bool (decide (r.length = ss.length) && (ss.zip r).all (fun p => partB (.str p.1) p.2) && (decide (w ≠ "swap") || !PyData.eqv (r.getD 1 .none) (r.getD 2 .none))))) st := by
  rw [callJ_at h4 rfl]
  unfold d_is_step b_is_step
  have F := fun st => form_of_eq (g := g) h3 d0 n w st
  have e1 : (PyData.str w :: r).isEmpty = false := rfl
  have LS := loopStep h0 g3 n (some (.pv (.tuple (.str w :: r)))) (some (.pv (.str f))) st (ss.zip r)
  simp only [jevw, F, hw, e1, forS, sli_tup, cut_1, hf, zip_map]
  by_cases hz : r.length = ss.length
  · have hz' : ((ss.length + 1 : Nat) : Int) = 1 + (f.length : Int) := by omega
    simp only [hz, hz']
    simp only [jev]
    cases ha : (ss.zip r).all (fun p => partB (.str p.1) p.2) with
    | true =>
      obtain ⟨η', ⟨u, v, rfl⟩, e⟩ := LS.1 ha
      rw [e]
      simp only [jev]
      by_cases hs : w = "swap"
      · obtain ⟨k, x, y, rfl, hx⟩ := h2 hs hz ha
        simp only [hs]
        simp only [jev]
        have : eqP x y = some (PyData.eqv x y) := by unfold eqP; rw [hx]; rfl
        rw [this]
        simp only [jev]
        simp
      · simp only [hs]
        simp only [jev]
        simp [hs]
    | false =>
      rw [LS.2 ha]
      simp only [jev]
      simp
  · have hz' : ¬ ((r.length + 1 : Nat) : Int) = 1 + (f.length : Int) := by omega
    simp only [hz', hz]
    simp only [jev]
    simp
end
end P
end

section
set_option maxRecDepth 100000
/-! M6: is_step of any value. -/
namespace P
open PySem PySem.Spec J
open L2 (atI ixN atI_nat)
theorem lab_dle {x : PV} (h : labP x = true) : dle 8 x = true := by
  cases x <;> first | rfl | cases h
theorem part_k (x : PV) : partB (.str "k") x = labP x := by
  show (if ("k" : Str) = "p" then plcP x else labP x) = _
  rw [if_neg (by decide)]
theorem part_v (x : PV) : partB (.str "v") x = labP x := by
  show (if ("v" : Str) = "p" then plcP x else labP x) = _
  rw [if_neg (by decide)]
theorem part_p (x : PV) : partB (.str "p") x = plcP x := by
  show (if ("p" : Str) = "p" then plcP x else labP x) = _
  rw [if_pos rfl]
section
variable {ds : List (Option DefJ)} {g : Glb}
theorem is_step_eq (h0 : ds[0]? = some (some d_is_label)) (h3 : ds[3]? = some (some d_form_of)) (h4 : ds[4]? = some (some d_is_step)) (g3 : g.glob[3]? = some placesV) (d0 : g.dict[0]? = some formsD) (n : Nat) (v : PV) (st : Store) :
    callJ ds g (n + 2) 4 [.pv v] st = .ok (.pv (.bool (stepP v))) st := by
  have nonstr : ∀ (x : PV) (r : List PV), isiV x "str" = false → callJ ds g (n + 2) 4 [.pv (.tuple (x :: r))] st = .ok (.pv (.bool false)) st := fun x r hx => by
    rw [callJ_at h4 rfl]
    unfold d_is_step b_is_step
    have e1 : (x :: r).isEmpty = false := rfl
    simp only [jevw, hx, e1]
  cases v with
  | tuple xs =>
    cases xs with
    | nil =>
      rw [callJ_at h4 rfl]
      unfold d_is_step b_is_step
      have e1 : ([] : List PV).isEmpty = true := rfl
      simp only [jevw, e1]
      rfl
    | cons x r =>
      cases x with
      | str w =>
        rcases form_cases w with hw | ⟨hn, hw⟩
        · have W := fun (f : Str) (ss : List Str) (a : formV w = .str f) (b : signs f = ss.map .str) (c : f.length = ss.length) d => is_step_nine h0 h3 h4 g3 d0 n w f ss r st a b c d
          unfold nine at hw
          simp only [List.mem_cons, List.not_mem_nil, or_false] at hw
          rcases hw with rfl | rfl | rfl | rfl | rfl | rfl | rfl | rfl | rfl
          · rw [W "kv" ["k", "v"] rfl rfl rfl (fun h => absurd h (by decide))]
            rcases r with _ | ⟨a, _ | ⟨b, _ | ⟨c, _ | ⟨d, r⟩⟩⟩⟩ <;> simp (config := { decide := true }) [stepP, part_k, part_v, part_p, Bool.and_assoc]
          · rw [W "kvp" ["k", "v", "p"] rfl rfl rfl (fun h => absurd h (by decide))]
            rcases r with _ | ⟨a, _ | ⟨b, _ | ⟨c, _ | ⟨d, r⟩⟩⟩⟩ <;> simp (config := { decide := true }) [stepP, part_k, part_v, part_p, Bool.and_assoc]
          · rw [W "kv" ["k", "v"] rfl rfl rfl (fun h => absurd h (by decide))]
            rcases r with _ | ⟨a, _ | ⟨b, _ | ⟨c, _ | ⟨d, r⟩⟩⟩⟩ <;> simp (config := { decide := true }) [stepP, part_k, part_v, part_p, Bool.and_assoc]
          · rw [W "k" ["k"] rfl rfl rfl (fun h => absurd h (by decide))]
            rcases r with _ | ⟨a, _ | ⟨b, _ | ⟨c, _ | ⟨d, r⟩⟩⟩⟩ <;> simp (config := { decide := true }) [stepP, part_k, part_v, part_p, Bool.and_assoc]
          · rw [W "k" ["k"] rfl rfl rfl (fun h => absurd h (by decide))]
            rcases r with _ | ⟨a, _ | ⟨b, _ | ⟨c, _ | ⟨d, r⟩⟩⟩⟩ <;> simp (config := { decide := true }) [stepP, part_k, part_v, part_p, Bool.and_assoc]
          · rw [W "k" ["k"] rfl rfl rfl (fun h => absurd h (by decide))]
            rcases r with _ | ⟨a, _ | ⟨b, _ | ⟨c, _ | ⟨d, r⟩⟩⟩⟩ <;> simp (config := { decide := true }) [stepP, part_k, part_v, part_p, Bool.and_assoc]
          · rw [W "k" ["k"] rfl rfl rfl (fun h => absurd h (by decide))]
            rcases r with _ | ⟨a, _ | ⟨b, _ | ⟨c, _ | ⟨d, r⟩⟩⟩⟩ <;> simp (config := { decide := true }) [stepP, part_k, part_v, part_p, Bool.and_assoc]
          · rw [W "k" ["k"] rfl rfl rfl (fun h => absurd h (by decide))]
            rcases r with _ | ⟨a, _ | ⟨b, _ | ⟨c, _ | ⟨d, r⟩⟩⟩⟩ <;> simp (config := { decide := true }) [stepP, part_k, part_v, part_p, Bool.and_assoc]
          · rw [W "kvv" ["k", "v", "v"] rfl rfl rfl (fun _ hl ha => ?_)]
            · rcases r with _ | ⟨a, _ | ⟨b, _ | ⟨c, _ | ⟨d, r⟩⟩⟩⟩ <;> simp (config := { decide := true }) [stepP, part_k, part_v, part_p, Bool.and_assoc]
            · rcases r with _ | ⟨a, _ | ⟨b, _ | ⟨c, _ | ⟨d, r⟩⟩⟩⟩
              · simp at hl
              · simp at hl
              · simp at hl
              · simp only [List.zip_cons_cons, List.all_cons, part_k, part_v, Bool.and_eq_true] at ha
                exact ⟨a, b, c, rfl, lab_dle ha.2.1⟩
              · simp at hl
        · rw [callJ_at h4 rfl]
          unfold d_is_step b_is_step
          have F := fun st => form_of_eq (g := g) h3 d0 n w st
          have hv : formV w = .none := by unfold formV; rw [hw]; rfl
          have e1 : (PyData.str w :: r).isEmpty = false := rfl
          simp only [jevw, F, hv, e1]
          have hn' : ∀ y ∈ nine, w ≠ y := fun y hy e => hn (e ▸ hy)
          unfold nine at hn'
          simp only [List.mem_cons, List.not_mem_nil, or_false, forall_eq_or_imp, forall_eq] at hn'
          obtain ⟨a1, a2, a3, a4, a5, a6, a7, a8, a9⟩ := hn'
          rcases r with _ | ⟨a, _ | ⟨b, _ | ⟨c, _ | ⟨d, r⟩⟩⟩⟩ <;> simp [stepP, a1, a2, a3, a4, a5, a6, a7, a8, a9]
      | _ => rw [nonstr _ _ rfl]; rcases r with _ | ⟨a, _ | ⟨b, _ | ⟨c, r⟩⟩⟩ <;> rfl
  | _ =>
    rw [callJ_at h4 rfl]
    unfold d_is_step b_is_step
    simp only [jev]
    rfl
end
end P
end

section
set_option maxRecDepth 100000
/-! M7: scripts. -/
namespace P
open PySem PySem.Spec J
open L2 (atI ixN atI_nat)
/-- a step as texts -/
def stepV (s : List Str) : PV := .tuple (s.map .str)
def okS : List Str → Bool
  | [w, k] => decide (w ∈ (["first", "last", "drop", "purge", "strike"] : List Str)) && lab k
  | [w, k, v] => decide (w ∈ (["set", "only"] : List Str)) && lab k && lab v
  | [w, k, v, x] => (decide (w = "add") && lab k && lab v && decide (x ∈ (["end", "top"] : List Str))) || (decide (w = "swap") && lab k && lab v && lab x && decide (v ≠ x))
  | _ => false
theorem stepP_V (s : List Str) : stepP (stepV s) = okS s := by
  rcases s with _ | ⟨w, _ | ⟨k, _ | ⟨v, _ | ⟨x, _ | ⟨y, r⟩⟩⟩⟩⟩
  · rfl
  · rfl
  · rfl
  · rfl
  · simp only [stepV, List.map_cons, List.map_nil, stepP, okS, labP, plcP, eqv_ss]
    simp
  · rfl
def strO : PV → Option Str
  | .str s => some s
  | _ => none
def unS : PV → List Str
  | .tuple xs => xs.filterMap strO
  | _ => []
theorem filter_strs : ∀ s : List Str, (s.map PyData.str).filterMap strO = s
  | [] => rfl
  | a :: s => by
    rw [List.map_cons, List.filterMap_cons]
    show a :: _ = _
    rw [filter_strs s]
theorem unS_V (s : List Str) : unS (stepV s) = s := filter_strs s
theorem labP_str {x : PV} (h : labP x = true) : ∃ s, x = .str s := by
  cases x <;> first | exact ⟨_, rfl⟩ | cases h
theorem plcP_str {x : PV} (h : plcP x = true) : ∃ s, x = .str s := by
  cases x <;> first | exact ⟨_, rfl⟩ | cases h
theorem step_str {v : PV} (h : stepP v = true) : v = stepV (unS v) ∧ okS (unS v) = true := by
  have key : ∃ s, v = stepV s := by
    unfold stepP at h
    split at h
    · simp only [Bool.and_eq_true] at h
      obtain ⟨k, rfl⟩ := labP_str h.2
      exact ⟨[_, k], rfl⟩
    · simp only [Bool.and_eq_true] at h
      obtain ⟨k, rfl⟩ := labP_str h.1.2
      obtain ⟨v, rfl⟩ := labP_str h.2
      exact ⟨[_, k, v], rfl⟩
    · simp only [Bool.and_eq_true, Bool.or_eq_true] at h
      rcases h with h | h
      · obtain ⟨k, rfl⟩ := labP_str h.1.1.2
        obtain ⟨v, rfl⟩ := labP_str h.1.2
        obtain ⟨x, rfl⟩ := plcP_str h.2
        exact ⟨[_, k, v, x], rfl⟩
      · obtain ⟨k, rfl⟩ := labP_str h.1.1.1.2
        obtain ⟨v, rfl⟩ := labP_str h.1.1.2
        obtain ⟨x, rfl⟩ := labP_str h.1.2
        exact ⟨[_, k, v, x], rfl⟩
    · cases h
  obtain ⟨s, rfl⟩ := key
  rw [unS_V]
  exact ⟨rfl, by rw [← stepP_V]; exact h⟩
/-- what a step names -/
def valsS : List Str → List Str
  | [_, _, v] => [v]
  | [w, _, v, x] => if w = "swap" then [v, x] else [v]
  | _ => []
def keyS (s : List Str) : Str := s.getD 1 Str.empty
def namedS (ss : List (List Str)) (key : Str) : List Str := ss.flatMap fun s => if keyS s = key then valsS s else []
def keysS (ss : List (List Str)) : List Str := sortS (ss.map keyS)
theorem strsOf_map : ∀ ss : List Str, strsOf (ss.map .str) = some ss
  | [] => rfl
  | s :: ss => by
    show (strsOf (ss.map .str)).map (s :: ·) = _
    rw [strsOf_map ss]; rfl
theorem srt_strs {ss : List Str} (h : ss.length ≤ 1000) : srtV (.list (ss.map .str)) = some (.list ((sortS ss).map .str)) := by
  show (match strsOf (ss.map .str) with | some ss => _ | none => none) = _
  rw [strsOf_map]
  simp only [h, if_true]
theorem cut_23 {α : Type} {a b c : α} {r : List α} : cutL (a :: b :: c :: r) (some 2) (some 3) = [c] := by
  unfold cutL
  rw [show (some (2 : Int)) = some ((2 : Nat) : Int) from rfl, show (some (3 : Int)) = some ((3 : Nat) : Int) from rfl, HT.sIx_nat, HT.sIx_nat]
  have h1 : min 2 (a :: b :: c :: r).length = 2 := by simp
  have h2 : min 3 (a :: b :: c :: r).length = 3 := by simp
  rw [h1, h2]
  rfl
theorem cut_24 {α : Type} {a b c d : α} {r : List α} : cutL (a :: b :: c :: d :: r) (some 2) (some 4) = [c, d] := by
  unfold cutL
  rw [show (some (2 : Int)) = some ((2 : Nat) : Int) from rfl, show (some (4 : Int)) = some ((4 : Nat) : Int) from rfl, HT.sIx_nat, HT.sIx_nat]
  have h1 : min 2 (a :: b :: c :: d :: r).length = 2 := by simp
  have h2 : min 4 (a :: b :: c :: d :: r).length = 4 := by simp
  rw [h1, h2]
  rfl
theorem in_4 (w a b c d : Str) : inP (.str w) (.tuple [.str a, .str b, .str c, .str d]) = some (decide (w ∈ [a, b, c, d])) := in_strs w [a, b, c, d]
theorem add_lst {xs ys : List PV} (h : xs.length + ys.length ≤ line) : addV (.list xs) (.list ys) = some (.list (xs ++ ys)) := if_pos h
section
variable {ds : List (Option DefJ)} {g : Glb}
theorem namedBody (cs : Calls) (a : Option SV) (key : Str) (found : List Str) (u : Option SV) (s : List Str) (hs : okS s = true) (hl : found.length + 2 ≤ line) (st : Store) :
    forBd (.nm 3) (evSs cs g l1_named_by) (stepV s) [a, some (.pv (.str key)), some (.pv (.list (found.map .str))), u] st =
      .next [a, some (.pv (.str key)), some (.pv (.list ((found ++ if keyS s = key then valsS s else []).map .str))), some (.pv (stepV s))] st := by
  unfold l1_named_by
  show evSs _ _ _ (([a, some (.pv (.str key)), some (.pv (.list (found.map .str))), u] : Envr).set 3 (some (.pv (stepV s)))) st = _
  have hl1 : found.length + 1 ≤ line := by omega
  rcases s with _ | ⟨w, _ | ⟨k, _ | ⟨v, _ | ⟨x, _ | ⟨y, r⟩⟩⟩⟩⟩
  · cases hs
  · cases hs
  · have hw : ¬ w ∈ (["set", "add", "only", "swap"] : List Str) := by
      simp only [okS, Bool.and_eq_true, decide_eq_true_eq] at hs
      have h := hs.1
      simp only [List.mem_cons, List.not_mem_nil, or_false] at h
      rcases h with rfl | rfl | rfl | rfl | rfl <;> decide
    by_cases hk : k = key
    · subst hk
      simp only [jevw, stepV, in_4, hw, keyS, valsS]
      simp
    · simp only [jevw, stepV, in_4, hw, keyS, valsS, hk]
      simp [hk]
  · have hw : w ∈ (["set", "add", "only", "swap"] : List Str) ∧ w ≠ "swap" := by
      simp only [okS, Bool.and_eq_true, decide_eq_true_eq] at hs
      have h := hs.1.1
      simp only [List.mem_cons, List.not_mem_nil, or_false] at h
      rcases h with rfl | rfl <;> decide
    by_cases hk : k = key
    · subst hk
      simp only [jevw, stepV, in_4, hw.1, hw.2, keyS, valsS, sli_tup, cut_23]
      rw [add_lst (by simpa using hl1)]
      simp only [jev]
      simp
    · simp only [jevw, stepV, in_4, hw, keyS, valsS, hk]
      simp [hk]
  · have hw : w ∈ (["set", "add", "only", "swap"] : List Str) := by
      simp only [okS, Bool.and_eq_true, Bool.or_eq_true, decide_eq_true_eq] at hs
      rcases hs with h | h
      · rw [h.1.1.1]; decide
      · rw [h.1.1.1.1]; decide
    by_cases hk : k = key
    · subst hk
      by_cases hsw : w = "swap"
      · have hm : Str.ofString "swap" ∈ (["set", "add", "only", "swap"] : List Str) := by decide
        simp only [jevw, stepV, in_4, hw, hsw, hm, keyS, valsS, sli_tup, cut_24]
        rw [add_lst (by simpa using hl)]
        simp only [jev]
        simp
      · simp only [jevw, stepV, in_4, hw, hsw, keyS, valsS, sli_tup, cut_23]
        rw [add_lst (by simpa using hl1)]
        simp only [jev]
        simp
    · simp only [jevw, stepV, in_4, hw, keyS, valsS, hk]
      simp [hk]
  · cases hs
theorem vals_le (s : List Str) : (valsS s).length ≤ 2 := by
  unfold valsS
  split
  · simp
  · split <;> simp
  · simp
theorem namedLoop (cs : Calls) (a : Option SV) (key : Str) (st : Store) : ∀ (ss : List (List Str)) (found : List Str) (u : Option SV), ss.all okS = true → found.length + 2 * ss.length ≤ line →
    ∃ u', loopJ (forBd (.nm 3) (evSs cs g l1_named_by)) (ss.map stepV) [a, some (.pv (.str key)), some (.pv (.list (found.map .str))), u] st = .next [a, some (.pv (.str key)), some (.pv (.list ((found ++ namedS ss key).map .str))), u'] st
  | [], found, u, _, _ => ⟨u, by simp [namedS, loop_nil]⟩
  | s :: ss, found, u, h, hl => by
    have h' : okS s = true ∧ ss.all okS = true := by simpa using h
    have hl0 : found.length + 2 * (ss.length + 1) ≤ line := by simpa using hl
    have B := namedBody (g := g) cs a key found u s h'.1 (by omega) st
    have hv := vals_le s
    have hl2 : (found ++ if keyS s = key then valsS s else []).length + 2 * ss.length ≤ line := by
      rw [List.length_append]
      split
      · omega
      · simp; omega
    obtain ⟨u', e⟩ := namedLoop cs a key st ss _ (some (.pv (stepV s))) h'.2 hl2
    refine ⟨u', ?_⟩
    rw [List.map_cons, loop_next B, e]
    unfold namedS
    rw [List.flatMap_cons, List.append_assoc]
theorem named_len (key : Str) : ∀ ss : List (List Str), (namedS ss key).length ≤ 2 * ss.length
  | [] => by simp [namedS]
  | s :: ss => by
    have ih := named_len key ss
    have hv := vals_le s
    unfold namedS at ih ⊢
    rw [List.flatMap_cons, List.length_append, List.length_cons]
    split
    · omega
    · rw [List.length_nil]; omega
theorem named_by_eq (h5 : ds[5]? = some (some d_named_by)) (n : Nat) (ss : List (List Str)) (key : Str) (st : Store) (h : ss.all okS = true) (hl : ss.length ≤ 100) :
    callJ ds g (n + 1) 5 [.pv (.tuple (ss.map stepV)), .pv (.str key)] st = .ok (.pv (.list ((sortS (namedS ss key)).map .str))) st := by
  rw [callJ_at h5 rfl]
  unfold d_named_by b_named_by
  obtain ⟨u', e⟩ := namedLoop (g := g) (callJ ds g n) (some (.pv (.tuple (ss.map stepV)))) key st ss [] none h (by unfold line; simp; omega)
  have hn := named_len key ss
  simp only [jevw, forS, itemsV, opt]
  have e' := e
  rw [List.map_nil] at e'
  rw [e']
  simp only [jevw, srtF, List.nil_append]
  rw [srt_strs (by omega)]
  simp only [jev]
theorem ok_key {s : List Str} (h : okS s = true) : ∃ w k r, s = w :: k :: r := by
  rcases s with _ | ⟨w, _ | ⟨k, r⟩⟩
  · cases h
  · cases h
  · exact ⟨w, k, r, rfl⟩
theorem keys_of_eq (h6 : ds[6]? = some (some d_keys_of)) (n : Nat) (ss : List (List Str)) (st : Store) (h : ss.all okS = true) (hl : ss.length ≤ 100) :
    callJ ds g (n + 1) 6 [.pv (.tuple (ss.map stepV))] st = .ok (.pv (.list ((keysS ss).map .str))) st := by
  rw [callJ_at h6 rfl]
  unfold d_keys_of b_keys_of
  simp only [jevw, srtF]
  rw [compF_map (items := ss.map stepV) (fun v => .str (keyS (unS v))) rfl (fun x hx => ?_) (by simp; unfold line; omega)]
  · have e : (ss.map stepV).map (fun v => PyData.str (keyS (unS v))) = (ss.map keyS).map .str := by
      rw [List.map_map, List.map_map]
      exact List.map_congr_left fun s _ => by simp [unS_V]
    simp only [jevw, e]
    rw [srt_strs (by simp; omega)]
    simp only [jev]
    rfl
  · obtain ⟨s, hs, rfl⟩ := List.mem_map.mp hx
    obtain ⟨w, k, r, rfl⟩ := ok_key (List.all_eq_true.mp h s hs)
    rw [compB_nm, unS_V]
    simp only [jevw, stepV]
    rfl
/-- is_script, of steps as texts -/
def scrS (ss : List (List Str)) : Bool := decide (ss.length ≤ 6) && (ss.all okS && (keysS ss).all fun k => decide ((sortS (namedS ss k)).length ≤ 4))
def scrP : PV → Bool
  | .tuple xs => decide (xs.length ≤ 6) && (xs.all stepP && (keysS (xs.map unS)).all fun k => decide ((sortS (namedS (xs.map unS) k)).length ≤ 4))
  | _ => false
def fewB (ss : List (List Str)) : PV → Bool
  | .str k => decide ((sortS (namedS ss k)).length ≤ 4)
  | _ => false
theorem steps_V {xs : List PV} (h : xs.all stepP = true) : xs = (xs.map unS).map stepV ∧ (xs.map unS).all okS = true := by
  constructor
  · rw [List.map_map]
    conv => lhs; rw [← List.map_id xs]
    exact List.map_congr_left fun x hx => (step_str (List.all_eq_true.mp h x hx)).1
  · rw [List.all_map]
    exact List.all_eq_true.mpr fun x hx => (step_str (List.all_eq_true.mp h x hx)).2
theorem is_script_eq (h0 : ds[0]? = some (some d_is_label)) (h3 : ds[3]? = some (some d_form_of)) (h4 : ds[4]? = some (some d_is_step)) (h5 : ds[5]? = some (some d_named_by)) (h6 : ds[6]? = some (some d_keys_of)) (h7 : ds[7]? = some (some d_is_script))
    (g1 : g.glob[1]? = some (.int 6)) (g2 : g.glob[2]? = some (.int 4)) (g3 : g.glob[3]? = some placesV) (d0 : g.dict[0]? = some formsD) (n : Nat) (v : PV) (st : Store) :
    callJ ds g (n + 3) 7 [.pv v] st = .ok (.pv (.bool (scrP v))) st := by
  rw [callJ_at h7 rfl]
  unfold d_is_script b_is_script
  cases v with
  | tuple xs =>
    simp only [jevw, globF, g1]
    by_cases hl : xs.length ≤ 6
    · have hl' : ¬ (6 : Int) < xs.length := by omega
      simp only [hl']
      simp only [jev]
      rw [compF_map (items := xs) (fun v => .bool (stepP v)) rfl (fun x hx => ?_) (by unfold line; omega)]
      · simp only [jevw, all_map]
        cases hs : xs.all stepP with
        | false => 
          simp only [jev]
          simp [scrP, hs]
        | true =>
          obtain ⟨e1, e2⟩ := steps_V hs
          simp only [jev]
          generalize hss : xs.map unS = ss at e1 e2
          have hz : ss.length ≤ 100 := by rw [← hss, List.length_map]; omega
          have K := keys_of_eq (g := g) h6 (n + 1) ss st e2 hz
          rw [← e1] at K
          have h1 : (keysS ss).length ≤ ss.length := by
            unfold keysS sortS
            rw [List.length_mergeSort]
            have := onceL_len (ss.map keyS) []
            simpa using this
          have hz2 : ((keysS ss).map PyData.str).length ≤ line := by
            rw [List.length_map]; unfold line; omega
          rw [compF_map (items := (keysS ss).map .str) (fun v => .bool (fewB ss v)) (by simp only [jevw, K, itemsV, opt]) (fun x hx => ?_) hz2]
          · have e : ((keysS ss).map PyData.str).map (fun v => PyData.bool (fewB ss v)) = (keysS ss).map fun k => PyData.bool (decide ((sortS (namedS ss k)).length ≤ 4)) := by
              rw [List.map_map]; rfl
            simp only [jevw, e, all_map]
            simp only [scrP, hs, hl, hss, decide_true, Bool.true_and]
          · obtain ⟨k, hk, rfl⟩ := List.mem_map.mp hx
            rw [compB_nm]
            have NB := named_by_eq (g := g) h5 (n + 1) ss k st e2 hz
            rw [← e1] at NB
            simp only [jevw, NB, g2, globF, List.length_map]
            simp [fewB]
            omega
      · rw [compB_nm]
        simp only [jevw, is_step_eq h0 h3 h4 g3 d0 n]
    · have hl' : (6 : Int) < xs.length := by omega
      simp only [hl']
      simp only [jev]
      simp [scrP, hl]
  | _ => simp only [jev]; rfl
end
end P
end

section
set_option maxRecDepth 100000
/-! M8: lines and what a step does to them. -/
namespace P
open PySem PySem.Spec J
open L2 (atI ixN atI_nat)
structure Ln where
  k : Str
  v : Str
  b : Bool
  deriving DecidableEq
def lnV (l : Ln) : PV := .tuple [.str l.k, .str l.v, .bool l.b]
def intV (n : Nat) : PV := .int (n : Int)
theorem eqv_bb (a b : Bool) : PyData.eqv (.bool a) (.bool b) = decide (a = b) := by
  show (a == b) = _
  cases a <;> cases b <;> rfl
theorem eqv_ii (a b : Int) : PyData.eqv (.int a) (.int b) = decide (a = b) := by
  show (a == b) = _
  by_cases h : a = b <;> simp [h]
theorem eqv_ln (a b : Ln) : PyData.eqv (lnV a) (lnV b) = decide (a = b) := by
  show (PyData.eqv (.str a.k) (.str b.k) && (PyData.eqv (.str a.v) (.str b.v) && (PyData.eqv (.bool a.b) (.bool b.b) && true))) = _
  rw [eqv_ss, eqv_ss, eqv_bb]
  obtain ⟨a1, a2, a3⟩ := a
  obtain ⟨b1, b2, b3⟩ := b
  simp only [Ln.mk.injEq, Bool.and_true]
  by_cases h1 : a1 = b1 <;> by_cases h2 : a2 = b2 <;> by_cases h3 : a3 = b3 <;> simp [h1, h2, h3]
/-- a list or a tuple of lines -/
def Cont (v : PV) (xs : List PV) : Prop := v = .list xs ∨ v = .tuple xs
def spotsN (ls : List Ln) (key : Str) (on : Bool) : List Nat := (ls.zipIdx.filter fun p => decide (p.1.k = key) && decide (p.1.b = on)).map (·.2)
def withoutN (ls : List Ln) (gone : List Nat) : List Ln := (ls.zipIdx.filter fun p => decide (p.2 ∉ gone)).map (·.1)
theorem spots_len (ls : List Ln) (key : Str) (on : Bool) : (spotsN ls key on).length ≤ ls.length := by
  unfold spotsN
  rw [List.length_map]
  exact Nat.le_trans (List.length_filter_le _ _) (by simp)
def encI (p : Ln × Nat) : PV := .tuple [.int (p.2 : Nat), lnV p.1]
theorem enumL_ln (ls : List Ln) : enumL (ls.map lnV) = ls.zipIdx.map encI := by
  unfold enumL
  rw [List.zipIdx_map, List.map_map]
  rfl
theorem in_ints (i : Nat) (ns : List Nat) : inP (.int (i : Int)) (.list (ns.map intV)) = some (decide (i ∈ ns)) := by
  show (if dle 8 (.int i) = true then some _ else none) = _
  rw [if_pos (by simp [dle])]
  congr 1
  rw [List.any_map, Bool.eq_iff_iff]
  simp only [List.any_eq_true, Function.comp, intV, eqv_ii, decide_eq_true_eq]
  constructor
  · rintro ⟨x, h, e⟩
    have : x = i := by omega
    subst this; exact h
  · intro h; exact ⟨i, h, rfl⟩
section
variable {ds : List (Option DefJ)} {g : Glb}
theorem spots_eq (h13 : ds[13]? = some (some d_spots)) (n : Nat) {v : PV} {ls : List Ln} (hv : Cont v (ls.map lnV)) (hl : ls.length ≤ line) (key : Str) (on : Bool) (st : Store) :
    callJ ds g (n + 1) 13 [.pv v, .pv (.str key), .pv (.bool on)] st = .ok (.pv (.list ((spotsN ls key on).map intV))) st := by
  rw [callJ_at h13 rfl]
  unfold d_spots b_spots
  simp only [jev]
  rw [compF_typed ls.zipIdx encI (fun p => if (decide (p.1.k = key) && decide (p.1.b = on)) = true then some (intV p.2) else none) ?_ (fun p _ => ?_) (by simpa using hl)]
  · rw [filterMap_if]
    simp only [jev]
    unfold spotsN
    rw [List.map_map]
    rfl
  · rcases hv with rfl | rfl
    · simp only [jevw, enumL_ln]
    · simp only [jevw, enumL_ln]
  · unfold encI
    rw [compB_tp2]
    simp only [jevw, lnV]
    by_cases h1 : p.1.k = key <;> by_cases h2 : p.1.b = on <;> simp [h1, h2, intV]
theorem without_eq (h14 : ds[14]? = some (some d_without)) (n : Nat) {v : PV} {ls : List Ln} (hv : Cont v (ls.map lnV)) (hl : ls.length ≤ line) (gone : List Nat) (st : Store) :
    callJ ds g (n + 1) 14 [.pv v, .pv (.list (gone.map intV))] st = .ok (.pv (.list ((withoutN ls gone).map lnV))) st := by
  rw [callJ_at h14 rfl]
  unfold d_without b_without
  simp only [jev]
  rw [compF_typed ls.zipIdx encI (fun p => if decide (p.2 ∉ gone) = true then some (lnV p.1) else none) ?_ (fun p _ => ?_) (by simpa using hl)]
  · rw [filterMap_if]
    simp only [jev]
    unfold withoutN
    rw [List.map_map]
    rfl
  · rcases hv with rfl | rfl
    · simp only [jevw, enumL_ln]
    · simp only [jevw, enumL_ln]
  · unfold encI
    rw [compB_tp2]
    simp only [jevw, in_ints]
    by_cases h1 : p.2 ∈ gone <;> simp [h1]
theorem cut_take {α : Type} (xs : List α) (i : Nat) : cutL xs none (some (i : Int)) = xs.take i := by
  unfold cutL
  rw [HT.sIx_none, HT.sIx_nat]
  simp only [List.drop_zero, Nat.sub_zero]
  by_cases h : i ≤ xs.length
  · rw [Nat.min_eq_left h]
  · rw [Nat.min_eq_right (by omega), List.take_of_length_le (Nat.le_refl _), List.take_of_length_le (by omega)]
theorem cut_drop {α : Type} (xs : List α) (i : Nat) : cutL xs (some (i : Int)) none = xs.drop i := by
  unfold cutL
  rw [HT.sIx_none, HT.sIx_nat]
  by_cases h : i ≤ xs.length
  · rw [Nat.min_eq_left h, List.take_of_length_le (by simp)]
  · rw [Nat.min_eq_right (by omega), List.drop_of_length_le (Nat.le_refl _), List.drop_of_length_le (by omega)]
    simp
theorem sli_lst {xs : List PV} {lo hi : Option Int} : sliV (.list xs) lo hi = some (.list (cutL xs lo hi)) := rfl
theorem set_cut {α : Type} (xs : List α) (i : Nat) (x : α) (h : i < xs.length) : xs.take i ++ [x] ++ xs.drop (i + 1) = xs.set i x := by
  rw [List.set_eq_take_append_cons_drop, if_pos h]
  simp
theorem with_line_eq (h15 : ds[15]? = some (some d_with_line)) (n : Nat) {ls : List Ln} (hl : ls.length ≤ 1000) (i : Nat) (hi : i < ls.length) (l : Ln) (st : Store) :
    callJ ds g (n + 1) 15 [.pv (.list (ls.map lnV)), .pv (.int (i : Int)), .pv (lnV l)] st = .ok (.pv (.list ((ls.set i l).map lnV))) st := by
  rw [callJ_at h15 rfl]
  unfold d_with_line b_with_line
  have e1 : ((i : Int) + 1) = ((i + 1 : Nat) : Int) := by omega
  simp only [jevw, sli_lst, cut_take, e1, cut_drop]
  rw [add_lst (by simp; unfold line; omega)]
  simp only [jev]
  rw [add_lst (by simp; unfold line; omega)]
  simp only [jev]
  rw [← set_cut ls i l hi]
  simp
end
end P
end

section
set_option maxRecDepth 100000
/-! M9: steps done. -/
namespace P
open PySem PySem.Spec J
open L2 (atI ixN atI_nat)
theorem wd_set_add : (("set" : Str) = "add") = False := eq_false (by decide)
theorem wd_set_only : (("set" : Str) = "only") = False := eq_false (by decide)
theorem wd_set_first : (("set" : Str) = "first") = False := eq_false (by decide)
theorem wd_set_last : (("set" : Str) = "last") = False := eq_false (by decide)
theorem wd_set_drop : (("set" : Str) = "drop") = False := eq_false (by decide)
theorem wd_set_purge : (("set" : Str) = "purge") = False := eq_false (by decide)
theorem wd_set_strike : (("set" : Str) = "strike") = False := eq_false (by decide)
theorem wd_set_swap : (("set" : Str) = "swap") = False := eq_false (by decide)
theorem wd_add_set : (("add" : Str) = "set") = False := eq_false (by decide)
theorem wd_add_only : (("add" : Str) = "only") = False := eq_false (by decide)
theorem wd_add_first : (("add" : Str) = "first") = False := eq_false (by decide)
theorem wd_add_last : (("add" : Str) = "last") = False := eq_false (by decide)
theorem wd_add_drop : (("add" : Str) = "drop") = False := eq_false (by decide)
theorem wd_add_purge : (("add" : Str) = "purge") = False := eq_false (by decide)
theorem wd_add_strike : (("add" : Str) = "strike") = False := eq_false (by decide)
theorem wd_add_swap : (("add" : Str) = "swap") = False := eq_false (by decide)
theorem wd_only_set : (("only" : Str) = "set") = False := eq_false (by decide)
theorem wd_only_add : (("only" : Str) = "add") = False := eq_false (by decide)
theorem wd_only_first : (("only" : Str) = "first") = False := eq_false (by decide)
theorem wd_only_last : (("only" : Str) = "last") = False := eq_false (by decide)
theorem wd_only_drop : (("only" : Str) = "drop") = False := eq_false (by decide)
theorem wd_only_purge : (("only" : Str) = "purge") = False := eq_false (by decide)
theorem wd_only_strike : (("only" : Str) = "strike") = False := eq_false (by decide)
theorem wd_only_swap : (("only" : Str) = "swap") = False := eq_false (by decide)
theorem wd_first_set : (("first" : Str) = "set") = False := eq_false (by decide)
theorem wd_first_add : (("first" : Str) = "add") = False := eq_false (by decide)
theorem wd_first_only : (("first" : Str) = "only") = False := eq_false (by decide)
theorem wd_first_last : (("first" : Str) = "last") = False := eq_false (by decide)
theorem wd_first_drop : (("first" : Str) = "drop") = False := eq_false (by decide)
theorem wd_first_purge : (("first" : Str) = "purge") = False := eq_false (by decide)
theorem wd_first_strike : (("first" : Str) = "strike") = False := eq_false (by decide)
theorem wd_first_swap : (("first" : Str) = "swap") = False := eq_false (by decide)
theorem wd_last_set : (("last" : Str) = "set") = False := eq_false (by decide)
theorem wd_last_add : (("last" : Str) = "add") = False := eq_false (by decide)
theorem wd_last_only : (("last" : Str) = "only") = False := eq_false (by decide)
theorem wd_last_first : (("last" : Str) = "first") = False := eq_false (by decide)
theorem wd_last_drop : (("last" : Str) = "drop") = False := eq_false (by decide)
theorem wd_last_purge : (("last" : Str) = "purge") = False := eq_false (by decide)
theorem wd_last_strike : (("last" : Str) = "strike") = False := eq_false (by decide)
theorem wd_last_swap : (("last" : Str) = "swap") = False := eq_false (by decide)
theorem wd_drop_set : (("drop" : Str) = "set") = False := eq_false (by decide)
theorem wd_drop_add : (("drop" : Str) = "add") = False := eq_false (by decide)
theorem wd_drop_only : (("drop" : Str) = "only") = False := eq_false (by decide)
theorem wd_drop_first : (("drop" : Str) = "first") = False := eq_false (by decide)
theorem wd_drop_last : (("drop" : Str) = "last") = False := eq_false (by decide)
theorem wd_drop_purge : (("drop" : Str) = "purge") = False := eq_false (by decide)
theorem wd_drop_strike : (("drop" : Str) = "strike") = False := eq_false (by decide)
theorem wd_drop_swap : (("drop" : Str) = "swap") = False := eq_false (by decide)
theorem wd_purge_set : (("purge" : Str) = "set") = False := eq_false (by decide)
theorem wd_purge_add : (("purge" : Str) = "add") = False := eq_false (by decide)
theorem wd_purge_only : (("purge" : Str) = "only") = False := eq_false (by decide)
theorem wd_purge_first : (("purge" : Str) = "first") = False := eq_false (by decide)
theorem wd_purge_last : (("purge" : Str) = "last") = False := eq_false (by decide)
theorem wd_purge_drop : (("purge" : Str) = "drop") = False := eq_false (by decide)
theorem wd_purge_strike : (("purge" : Str) = "strike") = False := eq_false (by decide)
theorem wd_purge_swap : (("purge" : Str) = "swap") = False := eq_false (by decide)
theorem wd_strike_set : (("strike" : Str) = "set") = False := eq_false (by decide)
theorem wd_strike_add : (("strike" : Str) = "add") = False := eq_false (by decide)
theorem wd_strike_only : (("strike" : Str) = "only") = False := eq_false (by decide)
theorem wd_strike_first : (("strike" : Str) = "first") = False := eq_false (by decide)
theorem wd_strike_last : (("strike" : Str) = "last") = False := eq_false (by decide)
theorem wd_strike_drop : (("strike" : Str) = "drop") = False := eq_false (by decide)
theorem wd_strike_purge : (("strike" : Str) = "purge") = False := eq_false (by decide)
theorem wd_strike_swap : (("strike" : Str) = "swap") = False := eq_false (by decide)
theorem wd_swap_set : (("swap" : Str) = "set") = False := eq_false (by decide)
theorem wd_swap_add : (("swap" : Str) = "add") = False := eq_false (by decide)
theorem wd_swap_only : (("swap" : Str) = "only") = False := eq_false (by decide)
theorem wd_swap_first : (("swap" : Str) = "first") = False := eq_false (by decide)
theorem wd_swap_last : (("swap" : Str) = "last") = False := eq_false (by decide)
theorem wd_swap_drop : (("swap" : Str) = "drop") = False := eq_false (by decide)
theorem wd_swap_purge : (("swap" : Str) = "purge") = False := eq_false (by decide)
theorem wd_swap_strike : (("swap" : Str) = "strike") = False := eq_false (by decide)
end P
end

local macro_rules | `(tactic| simp only [jevx, $ts,*]) => `(tactic| simp only [J.ev, J.evs, J.evO, J.evC, J.evI, J.evS, J.evSs, J.seqS, J.retS, J.retNS, J.setS, J.setTS, J.parS, J.augS, J.iteS, J.dropS, J.raiseS, J.brkS, J.cntS, J.nextS, J.negF, J.binF, J.cmpF, J.chainF, J.isNF, J.andF, J.orF, J.notF, J.ifF, J.tupF, J.lstF, J.mlstF, J.idxF, J.sliF, J.partF, J.biF, J.isiF, J.nilF, J.consF, J.noneF, J.trueF, J.tst, J.valF, J.rngF, J.rng2F, J.enumF, J.zipF, J.callF, J.bind_ok, J.bind_bad, J.bind_exc, J.thn_ok, J.thn_exc, J.thn_bad, J.seq_next, J.seq_ret, J.seq_exc, J.seq_brk, J.seq_cnt, J.asPV_pv, J.asPVs_nil, J.asPVs_cons, Option.map_some, J.truS_bool, J.truS_int, J.truS_str, J.truS_list, J.truS_tuple, J.truS_none, J.liftV_some, J.liftV_none, J.liftB_some, J.con_none, J.con_bool, J.con_int, J.con_str, J.slot_0, J.slot_1, J.slot_2, J.slot_3, J.slot_4, J.slot_5, J.slot_6, J.slot_7, J.slot_8, J.slot_9, J.slot_10, J.slot_11, J.slot_12, J.slot_13, J.slot_14, J.slot_15, J.slot_16, J.slot_17, J.slot_18, J.slot_19, J.slot_20, J.isi_none_str, J.isi_none_tuple, J.isi_none_bool, J.isi_none_int, J.isi_none_list, J.isi_bool_str, J.isi_bool_tuple, J.isi_bool_bool, J.isi_bool_int, J.isi_bool_list, J.isi_int_str, J.isi_int_tuple, J.isi_int_bool, J.isi_int_int, J.isi_int_list, J.isi_str_str, J.isi_str_tuple, J.isi_str_bool, J.isi_str_int, J.isi_str_list, J.isi_list_str, J.isi_list_tuple, J.isi_list_bool, J.isi_list_int, J.isi_list_list, J.isi_tuple_str, J.isi_tuple_tuple, J.isi_tuple_bool, J.isi_tuple_int, J.isi_tuple_list, J.isi_dict_str, J.isi_dict_tuple, J.isi_dict_bool, J.isi_dict_int, J.isi_dict_list, J.len_str, J.len_lst, J.len_tup, J.tup_lst, J.tup_tup, J.lst_lst, J.lst_tup, J.int_int, J.le_int, J.lt_int, J.le_str, J.add_int, J.sub_int, J.neg_int, J.eq_int, J.eq_str, J.eq_bool, J.eq_lst0, J.eq_tup0, J.idx_tup, J.idx_lst, J.at_0, J.at_1, J.at_2, J.at_3, J.runDef_eq, J.end_next, J.end_ret, J.end_exc, J.ite_bind, J.ite_thn, J.ite_seq, J.ite_end, J.binV, J.exit_pv, J.take_st, J.asg_tp, J.setAll_cons, J.setAll_nil, J.asgS_cons, J.asgS_nil, J.wipe_nil, J.wipe_cons, J.line, Nat.reduceLeDiff, Nat.reduceLT, decide_true, decide_false, Bool.not_not, J.startJ, List.map_cons, List.map_nil, List.length_cons, List.length_nil, List.replicate_succ, List.replicate_zero, List.cons_append, List.nil_append, List.set_cons_zero, List.set_cons_succ, Nat.sub_self, Nat.succ_sub_succ_eq_sub, Nat.sub_zero, Nat.reduceSub, Nat.reduceAdd, if_true, if_false, Bool.false_eq_true, Bool.true_eq_false, J.cmpV, J.isNon, Bool.not_true, Bool.not_false, ite_true, ite_false, reduceIte, P.wd_set_add, P.wd_set_only, P.wd_set_first, P.wd_set_last, P.wd_set_drop, P.wd_set_purge, P.wd_set_strike, P.wd_set_swap, P.wd_add_set, P.wd_add_only, P.wd_add_first, P.wd_add_last, P.wd_add_drop, P.wd_add_purge, P.wd_add_strike, P.wd_add_swap, P.wd_only_set, P.wd_only_add, P.wd_only_first, P.wd_only_last, P.wd_only_drop, P.wd_only_purge, P.wd_only_strike, P.wd_only_swap, P.wd_first_set, P.wd_first_add, P.wd_first_only, P.wd_first_last, P.wd_first_drop, P.wd_first_purge, P.wd_first_strike, P.wd_first_swap, P.wd_last_set, P.wd_last_add, P.wd_last_only, P.wd_last_first, P.wd_last_drop, P.wd_last_purge, P.wd_last_strike, P.wd_last_swap, P.wd_drop_set, P.wd_drop_add, P.wd_drop_only, P.wd_drop_first, P.wd_drop_last, P.wd_drop_purge, P.wd_drop_strike, P.wd_drop_swap, P.wd_purge_set, P.wd_purge_add, P.wd_purge_only, P.wd_purge_first, P.wd_purge_last, P.wd_purge_drop, P.wd_purge_strike, P.wd_purge_swap, P.wd_strike_set, P.wd_strike_add, P.wd_strike_only, P.wd_strike_first, P.wd_strike_last, P.wd_strike_drop, P.wd_strike_purge, P.wd_strike_swap, P.wd_swap_set, P.wd_swap_add, P.wd_swap_only, P.wd_swap_first, P.wd_swap_last, P.wd_swap_drop, P.wd_swap_purge, P.wd_swap_strike, $ts,*])
section
set_option maxRecDepth 100000
namespace P
open PySem PySem.Spec J
open L2 (atI ixN atI_nat)
def setN (ls : List Ln) (key v : Str) : List Ln :=
  match (if spotsN ls key true ≠ [] then spotsN ls key true else spotsN ls key false).getLast? with
  | none => ls ++ [⟨key, v, true⟩]
  | some i => ls.set i ⟨key, v, true⟩
def onlyN (ls : List Ln) (key v : Str) : List Ln :=
  match spotsN ls key true with
  | [] => ls ++ [⟨key, v, true⟩]
  | i :: r => withoutN (ls.set i ⟨key, v, true⟩) r
def addN (ls : List Ln) (key v place : Str) : List Ln :=
  if (⟨key, v, true⟩ : Ln) ∈ ls then ls else if place = "top" then ⟨key, v, true⟩ :: ls else ls ++ [⟨key, v, true⟩]
def stepN (ls : List Ln) : List Str → List Ln
  | [w, key] =>
    if w = "first" then withoutN ls (spotsN ls key true).tail
    else if w = "last" then withoutN ls (spotsN ls key true).dropLast
    else if w = "drop" then withoutN ls (spotsN ls key true)
    else if w = "purge" then withoutN ls (spotsN ls key true ++ spotsN ls key false)
    else ls.map fun l => ⟨l.k, l.v, l.b && decide (l.k ≠ key)⟩
  | [w, key, v] => if w = "set" then setN ls key v else onlyN ls key v
  | [w, key, v, x] => if w = "add" then addN ls key v x else ls.map fun l => if l = ⟨key, v, true⟩ then ⟨key, x, true⟩ else l
  | _ => ls
theorem spots_lt {ls : List Ln} {key : Str} {on : Bool} {i : Nat} (h : i ∈ spotsN ls key on) : i < ls.length := by
  unfold spotsN at h
  obtain ⟨p, hp, rfl⟩ := List.mem_map.mp h
  have := (List.mem_filter.mp hp).1
  obtain ⟨x, j⟩ := p
  have := List.mem_zipIdx this
  omega
theorem at_last (ns : List Nat) (i : Nat) (h : ns.getLast? = some i) : atI (ns.map intV) (-1) = some (intV i) := by
  obtain ⟨r, rfl⟩ := List.getLast?_eq_some_iff.mp h
  rw [List.map_append, List.map_singleton]
  exact L2.atI_last _ _
theorem lnT (key v : Str) (b : Bool) : PyData.tuple [.str key, .str v, .bool b] = lnV ⟨key, v, b⟩ := rfl
theorem in_lns (l : Ln) (ls : List Ln) : inP (lnV l) (.list (ls.map lnV)) = some (decide (l ∈ ls)) := by
  show (if dle 8 (lnV l) = true then some _ else none) = _
  rw [if_pos (by simp [dle, lnV])]
  congr 1
  rw [List.any_map, Bool.eq_iff_iff]
  simp only [List.any_eq_true, Function.comp, eqv_ln, decide_eq_true_eq]
  constructor
  · rintro ⟨x, h, rfl⟩; exact h
  · intro h; exact ⟨l, h, rfl⟩
theorem eq_ln (a b : Ln) : eqP (lnV a) (lnV b) = some (decide (a = b)) := by
  unfold eqP
  rw [if_pos (by simp [dle, lnV]), eqv_ln]
section
variable {ds : List (Option DefJ)} {g : Glb}
theorem empty_map {α : Type} (f : α → PV) (xs : List α) : (xs.map f).isEmpty = xs.isEmpty := by cases xs <;> rfl
/-- places: none, or a last one -/
theorem last_cases (ns : List Nat) : ns = [] ∨ ∃ i, ns.getLast? = some i ∧ i ∈ ns ∧ (ns.map intV).isEmpty = false ∧ ns ≠ [] := by
  cases hq : ns.getLast? with
  | none => exact .inl (List.getLast?_eq_none_iff.mp hq)
  | some i =>
    have hm : i ∈ ns := by
      obtain ⟨r, rfl⟩ := List.getLast?_eq_some_iff.mp hq
      simp
    refine .inr ⟨i, rfl, hm, ?_, fun e => by rw [e] at hm; simp at hm⟩
    rw [empty_map]
    cases ns with
    | nil => simp at hm
    | cons _ _ => rfl
theorem nil_empty : ([] : List PV).isEmpty = true := rfl
theorem after_set_eq (h13 : ds[13]? = some (some d_spots)) (h15 : ds[15]? = some (some d_with_line)) (h16 : ds[16]? = some (some d_after_set)) (n : Nat) {ls : List Ln} (hl : ls.length ≤ 500) (key v : Str) (st : Store) :
    callJ ds g (n + 2) 16 [.pv (.list (ls.map lnV)), .pv (.str key), .pv (.str v)] st = .ok (.pv (.list ((setN ls key v).map lnV))) st := by
  rw [callJ_at h16 rfl]
  unfold d_after_set b_after_set
  have S := fun on st => spots_eq (g := g) h13 n (.inl rfl : Cont (.list (ls.map lnV)) (ls.map lnV)) (by unfold line; omega) key on st
  have W := fun i hi l st => with_line_eq (g := g) h15 n (ls := ls) (by omega) i hi l st
  have ha : addV (.list (ls.map lnV)) (.list [lnV ⟨key, v, true⟩]) = some (.list (ls.map lnV ++ [lnV ⟨key, v, true⟩])) := add_lst (by simp; unfold line; omega)
  unfold setN
  rcases last_cases (spotsN ls key true) with h1 | ⟨i, q1, m1, e1, z1⟩
  · rw [if_neg (by rw [h1]; simp)]
    rcases last_cases (spotsN ls key false) with h2 | ⟨i, q1, m1, e1, z1⟩
    · simp only [jevw, S, h1, h2, nil_empty, lnT, ha, List.getLast?_nil]
      simp
    · have a1 := at_last _ _ q1
      rw [q1]
      simp only [jevw, S, h1, nil_empty, e1, a1, lnT, intV, W i (spots_lt m1)]
  · have a1 := at_last _ _ q1
    rw [if_pos z1, q1]
    simp only [jevw, S, nil_empty, e1, a1, lnT, intV, W i (spots_lt m1)]
theorem after_only_eq (h13 : ds[13]? = some (some d_spots)) (h14 : ds[14]? = some (some d_without)) (h15 : ds[15]? = some (some d_with_line)) (h17 : ds[17]? = some (some d_after_only)) (n : Nat) {ls : List Ln} (hl : ls.length ≤ 500) (key v : Str) (st : Store) :
    callJ ds g (n + 2) 17 [.pv (.list (ls.map lnV)), .pv (.str key), .pv (.str v)] st = .ok (.pv (.list ((onlyN ls key v).map lnV))) st := by
  rw [callJ_at h17 rfl]
  unfold d_after_only b_after_only
  have S := fun on st => spots_eq (g := g) h13 n (.inl rfl : Cont (.list (ls.map lnV)) (ls.map lnV)) (by unfold line; omega) key on st
  have W := fun i hi l st => with_line_eq (g := g) h15 n (ls := ls) (by omega) i hi l st
  have ha : addV (.list (ls.map lnV)) (.list [lnV ⟨key, v, true⟩]) = some (.list (ls.map lnV ++ [lnV ⟨key, v, true⟩])) := add_lst (by simp; unfold line; omega)
  unfold onlyN
  cases h1 : spotsN ls key true with
  | nil =>
    simp only [jevw, S, h1, nil_empty, lnT, ha]
    simp
  | cons i r =>
    have hi : i < ls.length := spots_lt (key := key) (on := true) (by rw [h1]; simp)
    have O := fun st => without_eq (g := g) h14 n (ls := ls.set i ⟨key, v, true⟩) (.inl rfl) (by rw [List.length_set]; unfold line; omega) r st
    have e1 : (PyData.int (i : Int) :: r.map intV).isEmpty = false := rfl
    simp only [jevw, S, h1, intV, e1, lnT, W i hi, sli_lst, cut_1]
    rw [O]
    simp only [jev]
theorem after_add_eq (h18 : ds[18]? = some (some d_after_add)) (n : Nat) {ls : List Ln} (hl : ls.length ≤ 500) (key v place : Str) (st : Store) :
    callJ ds g (n + 1) 18 [.pv (.list (ls.map lnV)), .pv (.str key), .pv (.str v), .pv (.str place)] st = .ok (.pv (.list ((addN ls key v place).map lnV))) st := by
  rw [callJ_at h18 rfl]
  unfold d_after_add b_after_add
  have ha : addV (.list (ls.map lnV)) (.list [lnV ⟨key, v, true⟩]) = some (.list (ls.map lnV ++ [lnV ⟨key, v, true⟩])) := add_lst (by simp; unfold line; omega)
  have hb : addV (.list [lnV ⟨key, v, true⟩]) (.list (ls.map lnV)) = some (.list ([lnV ⟨key, v, true⟩] ++ ls.map lnV)) := add_lst (by simp; unfold line; omega)
  simp only [jevw, lnT, in_lns, ha, hb]
  unfold addN
  by_cases h : (⟨key, v, true⟩ : Ln) ∈ ls <;> by_cases h2 : place = "top" <;> simp [h, h2]
theorem ok2 {w k : Str} (h : okS [w, k] = true) : w = "first" ∨ w = "last" ∨ w = "drop" ∨ w = "purge" ∨ w = "strike" := by
  simp only [okS, Bool.and_eq_true, decide_eq_true_eq, List.mem_cons, List.not_mem_nil, or_false] at h
  exact h.1
theorem ok3 {w k v : Str} (h : okS [w, k, v] = true) : w = "set" ∨ w = "only" := by
  simp only [okS, Bool.and_eq_true, decide_eq_true_eq, List.mem_cons, List.not_mem_nil, or_false] at h
  exact h.1.1
theorem ok4 {w k v x : Str} (h : okS [w, k, v, x] = true) : w = "add" ∨ w = "swap" := by
  simp only [okS, Bool.and_eq_true, Bool.or_eq_true, decide_eq_true_eq] at h
  rcases h with h | h
  · exact .inl h.1.1.1
  · exact .inr h.1.1.1.1
theorem cut_init (ns : List Nat) : cutL (ns.map intV) none (some (-1)) = ns.dropLast.map intV := by
  unfold cutL
  rw [HT.sIx_none]
  have h1 : HT.sIx (ns.map intV).length (ns.map intV).length (some (-1)) = ns.length - 1 := by
    have h2 : HT.sIx (ns.map intV).length (ns.map intV).length (some (-1)) = ((-1 : Int) + ((ns.map intV).length : Int)).toNat := by
      simp only [HT.sIx]
      rw [if_pos (by decide)]
    rw [h2, List.length_map]
    omega
  rw [h1]
  simp only [List.drop_zero, Nat.sub_zero]
  rw [← List.map_take, ← List.dropLast_eq_take]
theorem cut_tail (ns : List Nat) : cutL (ns.map intV) (some 1) none = ns.tail.map intV := by
  cases ns with
  | nil => rfl
  | cons a r => rw [List.map_cons, cut_1]; rfl
theorem after_step_eq (h13 : ds[13]? = some (some d_spots)) (h14 : ds[14]? = some (some d_without)) (h15 : ds[15]? = some (some d_with_line)) (h16 : ds[16]? = some (some d_after_set)) (h17 : ds[17]? = some (some d_after_only)) (h18 : ds[18]? = some (some d_after_add)) (h19 : ds[19]? = some (some d_after_step))
    (n : Nat) {ls : List Ln} (hl : ls.length ≤ 500) (s : List Str) (hs : okS s = true) (st : Store) :
    callJ ds g (n + 3) 19 [.pv (.list (ls.map lnV)), .pv (stepV s)] st = .ok (.pv (.list ((stepN ls s).map lnV))) st := by
  rw [callJ_at h19 rfl]
  unfold d_after_step b_after_step
  have hz : ls.length ≤ line := by unfold line; omega
  have S := fun key on st => spots_eq (g := g) h13 (n + 1) (.inl rfl : Cont (.list (ls.map lnV)) (ls.map lnV)) hz key on st
  have O := fun gone st => without_eq (g := g) h14 (n + 1) (ls := ls) (.inl rfl) hz gone st
  have A := fun key v st => after_set_eq (g := g) h13 h15 h16 n hl key v st
  have B := fun key v st => after_only_eq (g := g) h13 h14 h15 h17 n hl key v st
  have C := fun key v p st => after_add_eq (g := g) h18 (n + 1) hl key v p st
  rcases s with _ | ⟨w, _ | ⟨k, _ | ⟨v, _ | ⟨x, _ | ⟨y, r⟩⟩⟩⟩⟩
  · cases hs
  · cases hs
  · rcases ok2 hs with rfl | rfl | rfl | rfl | rfl
    · simp only [jevx, stepV, S, sli_lst, cut_tail, O, stepN]
    · simp only [jevx, stepV, S, sli_lst, cut_init, O, stepN]
    · simp only [jevx, stepV, S, O, stepN]
    · have ha : addV (.list ((spotsN ls k true).map intV)) (.list ((spotsN ls k false).map intV)) = some (.list ((spotsN ls k true ++ spotsN ls k false).map intV)) := by
        have h1 := spots_len ls k true
        have h2 := spots_len ls k false
        rw [add_lst (by rw [List.length_map, List.length_map]; unfold line; omega), List.map_append]
      simp only [jevx, stepV, S, ha, O, stepN]
    · simp only [jevx, stepV, S, stepN]
      rw [compF_tmap ls lnV (fun l => lnV ⟨l.k, l.v, l.b && decide (l.k ≠ k)⟩) (by simp only [jevw, itemsV, opt]) (fun l _ => ?_) hz]
      · simp only [jev]
        rw [List.map_map]; rfl
      · rw [compB_nm]
        simp only [jevw, lnV]
        cases hb : l.b <;> simp
  · rcases ok3 hs with rfl | rfl
    · simp only [jevx, stepV, S, A, stepN]
    · simp only [jevx, stepV, S, B, stepN]
  · rcases ok4 hs with rfl | rfl
    · simp only [jevx, stepV, S, C, stepN]
    · simp only [jevx, stepV, S, stepN]
      rw [compF_tmap ls lnV (fun l => lnV (if l = ⟨k, v, true⟩ then ⟨k, x, true⟩ else l)) (by simp only [jevw, itemsV, opt]) (fun l _ => ?_) hz]
      · simp only [jev]
        rw [List.map_map]; rfl
      · rw [compB_nm]
        simp only [jevw, lnT, eq_ln]
        by_cases q : l = ⟨k, v, true⟩ <;> simp [q]
  · cases hs
/-! ### scripts done -/
def doneN (ls : List Ln) (ss : List (List Str)) : List Ln := ss.foldl stepN ls
theorem step_len (ls : List Ln) (s : List Str) : (stepN ls s).length ≤ ls.length + 1 := by
  have wl : ∀ (xs : List Ln) gone, (withoutN xs gone).length ≤ xs.length := fun xs gone => by
    unfold withoutN
    rw [List.length_map]
    exact Nat.le_trans (List.length_filter_le _ _) (by simp)
  unfold stepN
  split
  · have := wl ls
    split
    · exact Nat.le_succ_of_le (this _)
    · split
      · exact Nat.le_succ_of_le (this _)
      · split
        · exact Nat.le_succ_of_le (this _)
        · split
          · exact Nat.le_succ_of_le (this _)
          · simp
  · split
    · unfold setN
      split <;> simp
    · unfold onlyN
      split
      · simp
      · refine Nat.le_succ_of_le (Nat.le_trans (wl _ _) ?_)
        simp
  · split
    · unfold addN
      split
      · omega
      · split <;> simp
    · simp
  · omega
theorem done_len : ∀ (ss : List (List Str)) (ls : List Ln), (doneN ls ss).length ≤ ls.length + ss.length
  | [], ls => by simp [doneN]
  | s :: ss, ls => by
    have h1 := step_len ls s
    have h2 := done_len ss (stepN ls s)
    unfold doneN at h2 ⊢
    rw [List.foldl_cons, List.length_cons]
    omega
structure HasRun (ds : List (Option DefJ)) : Prop where
  h13 : ds[13]? = some (some d_spots)
  h14 : ds[14]? = some (some d_without)
  h15 : ds[15]? = some (some d_with_line)
  h16 : ds[16]? = some (some d_after_set)
  h17 : ds[17]? = some (some d_after_only)
  h18 : ds[18]? = some (some d_after_add)
  h19 : ds[19]? = some (some d_after_step)
theorem doneLoop (R : HasRun ds) (n : Nat) (a : Option SV) (st : Store) : ∀ (ss : List (List Str)) (ls : List Ln) (u : Option SV), ss.all okS = true → ls.length + ss.length ≤ 400 →
    ∃ u', loopJ (forBd (.nm 2) (evSs (callJ ds g (n + 3)) g l1_done)) (ss.map stepV) [a, some (.pv (.list (ls.map lnV))), u] st = .next [a, some (.pv (.list ((doneN ls ss).map lnV))), u'] st
  | [], ls, u, _, _ => ⟨u, rfl⟩
  | s :: ss, ls, u, h, hl => by
    have h' : okS s = true ∧ ss.all okS = true := by simpa using h
    rw [List.length_cons] at hl
    have B := after_step_eq (g := g) R.h13 R.h14 R.h15 R.h16 R.h17 R.h18 R.h19 n (ls := ls) (by omega) s h'.1 st
    have hs := step_len ls s
    obtain ⟨u', e⟩ := doneLoop R n a st ss (stepN ls s) (some (.pv (stepV s))) h'.2 (by omega)
    refine ⟨u', ?_⟩
    have hb : forBd (.nm 2) (evSs (callJ ds g (n + 3)) g l1_done) (stepV s) [a, some (.pv (.list (ls.map lnV))), u] st = .next [a, some (.pv (.list ((stepN ls s).map lnV))), some (.pv (stepV s))] st := by
      unfold l1_done
      show evSs _ _ _ (([a, some (.pv (.list (ls.map lnV))), u] : Envr).set 2 (some (.pv (stepV s)))) st = _
      simp only [jevw, B]
    rw [List.map_cons, loop_next hb, e]
    rfl
theorem done_eq (R : HasRun ds) (h20 : ds[20]? = some (some d_done)) (n : Nat) (ss : List (List Str)) (ls : List Ln) (hs : ss.all okS = true) (hl : ls.length + ss.length ≤ 400) (st : Store) :
    callJ ds g (n + 4) 20 [.pv (.tuple (ss.map stepV)), .pv (.list (ls.map lnV))] st = .ok (.pv (.list ((doneN ls ss).map lnV))) st := by
  rw [callJ_at h20 rfl]
  unfold d_done b_done
  obtain ⟨u', e⟩ := doneLoop (g := g) R n (some (.pv (.tuple (ss.map stepV)))) st ss ls none hs hl
  simp only [jevw, forS, itemsV, opt, e]
end
end P
end

section
set_option maxRecDepth 100000
/-! M10: run, view, read. -/
namespace P
open PySem PySem.Spec J
open L2 (atI ixN atI_nat)
structure HasPk (ds : List (Option DefJ)) (g : Glb) : Prop where
  h0 : ds[0]? = some (some d_is_label)
  h3 : ds[3]? = some (some d_form_of)
  h4 : ds[4]? = some (some d_is_step)
  h5 : ds[5]? = some (some d_named_by)
  h6 : ds[6]? = some (some d_keys_of)
  h7 : ds[7]? = some (some d_is_script)
  h8 : ds[8]? = some (some d_need_script)
  g1 : g.glob[1]? = some (.int 6)
  g2 : g.glob[2]? = some (.int 4)
  g3 : g.glob[3]? = some placesV
  d0 : g.dict[0]? = some formsD
structure HasFl (ds : List (Option DefJ)) (g : Glb) : Prop where
  h0 : ds[0]? = some (some d_is_label)
  h1 : ds[1]? = some (some d_is_line)
  h2 : ds[2]? = some (some d_is_file)
  h9 : ds[9]? = some (some d_need_file)
  g0 : g.glob[0]? = some (.int 40)
section
variable {ds : List (Option DefJ)} {g : Glb}
theorem need_script_eq (H : HasPk ds g) (n : Nat) (v : PV) (st : Store) : callJ ds g (n + 4) 8 [.pv v] st = if scrP v = true then .ok (.pv .none) st else .exc ⟨0, none⟩ st := by
  rw [callJ_at H.h8 rfl]
  unfold d_need_script b_need_script
  have S := fun st => is_script_eq (g := g) H.h0 H.h3 H.h4 H.h5 H.h6 H.h7 H.g1 H.g2 H.g3 H.d0 n v st
  simp only [jevw, S]
  cases scrP v <;> simp
theorem need_file_eq (H : HasFl ds g) (n : Nat) (v : PV) (st : Store) : callJ ds g (n + 4) 9 [.pv v] st = if filP v = true then .ok (.pv .none) st else .exc ⟨1, none⟩ st := by
  rw [callJ_at H.h9 rfl]
  unfold d_need_file b_need_file
  have S := fun st => is_file_eq (g := g) H.h0 H.h1 H.h2 H.g0 n v st
  simp only [jevw, S]
  cases filP v <;> simp
theorem need_key_eq (h0 : ds[0]? = some (some d_is_label)) (h10 : ds[10]? = some (some d_need_key)) (n : Nat) (v : PV) (st : Store) : callJ ds g (n + 2) 10 [.pv v] st = if labP v = true then .ok (.pv .none) st else .exc ⟨2, none⟩ st := by
  rw [callJ_at h10 rfl]
  unfold d_need_key b_need_key
  have S := fun st => is_label_eq (g := g) h0 n v st
  simp only [jevw, S]
  cases labP v <;> simp
/-- files as lines -/
def okL (l : Ln) : Bool := lab l.k && lab l.v
theorem linP_V (l : Ln) : linP (lnV l) = okL l := by
  show (lab l.k && lab l.v && true) = _
  rw [Bool.and_true]; rfl
theorem filP_V (ls : List Ln) : filP (.tuple (ls.map lnV)) = (decide (ls.length ≤ 40) && ls.all okL) := by
  show (decide ((ls.map lnV).length ≤ 40) && (ls.map lnV).all linP) = _
  rw [List.length_map, List.all_map]
  congr 2
  funext l
  exact linP_V l
theorem scrP_V (ss : List (List Str)) : scrP (.tuple (ss.map stepV)) = scrS ss := by
  have e : (ss.map stepV).map unS = ss := by
    rw [List.map_map]
    conv => rhs; rw [← List.map_id ss]
    exact List.map_congr_left fun s _ => unS_V s
  show (decide ((ss.map stepV).length ≤ 6) && ((ss.map stepV).all stepP && (keysS ((ss.map stepV).map unS)).all fun k => decide ((sortS (namedS ((ss.map stepV).map unS) k)).length ≤ 4))) = _
  rw [e, List.length_map, List.all_map]
  unfold scrS
  congr 3
  funext s
  exact stepP_V s
theorem run_eq (H : HasPk ds g) (F : HasFl ds g) (R : HasRun ds) (h20 : ds[20]? = some (some d_done)) (h21 : ds[21]? = some (some d_run)) (n : Nat) (ss : List (List Str)) (ls : List Ln) (hs : scrS ss = true) (hf : ls.all okL = true) (hl : ls.length ≤ 40) (st : Store) :
    callJ ds g (n + 5) 21 [.pv (.tuple (ss.map stepV)), .pv (.tuple (ls.map lnV))] st = .ok (.pv (.tuple ((doneN ls ss).map lnV))) st := by
  rw [callJ_at h21 rfl]
  unfold d_run b_run
  have A := fun st => need_script_eq (g := g) H n (.tuple (ss.map stepV)) st
  have B := fun st => need_file_eq (g := g) F n (.tuple (ls.map lnV)) st
  have e1 : scrP (.tuple (ss.map stepV)) = true := by rw [scrP_V]; exact hs
  have e2 : filP (.tuple (ls.map lnV)) = true := by rw [filP_V]; simp [hl, hf]
  have hs' : ss.length ≤ 6 ∧ ss.all okS = true := by
    unfold scrS at hs
    simp only [Bool.and_eq_true, decide_eq_true_eq] at hs
    exact ⟨hs.1, hs.2.1⟩
  have C := fun st => done_eq (g := g) R h20 n ss ls hs'.2 (by omega) st
  simp only [jevw, A, B, e1, e2, C]
/-! ### views -/
def liveN (ls : List Ln) (key : Str) : List Str := (ls.filter fun l => decide (l.k = key) && l.b).map (·.v)
def deadN (ls : List Ln) (key : Str) : Nat := (spotsN ls key false).length
def viewV (ls : List Ln) (key : Str) : PV := .tuple [.tuple ((liveN ls key).map .str), .int (deadN ls key)]
theorem view_of_eq (h13 : ds[13]? = some (some d_spots)) (h22 : ds[22]? = some (some d_view_of)) (n : Nat) {v : PV} {ls : List Ln} (hv : Cont v (ls.map lnV)) (hl : ls.length ≤ 500) (key : Str) (st : Store) :
    callJ ds g (n + 2) 22 [.pv v, .pv (.str key)] st = .ok (.pv (viewV ls key)) st := by
  rw [callJ_at h22 rfl]
  unfold d_view_of b_view_of
  have hz : ls.length ≤ line := by unfold line; omega
  have S := fun on st => spots_eq (g := g) h13 n hv hz key on st
  simp only [jev]
  rw [compF_typed ls lnV (fun l => if (decide (l.k = key) && l.b) = true then some (.str l.v) else none) ?_ (fun l _ => ?_) hz]
  · rw [filterMap_if]
    simp only [jevw, S, List.length_map]
    have : (ls.filter fun l => decide (l.k = key) && l.b).map (fun l => PyData.str l.v) = (liveN ls key).map .str := by
      unfold liveN
      rw [List.map_map]; rfl
    rw [this]
    rfl
  · rcases hv with rfl | rfl
    · simp only [jevw, itemsV, opt]
    · simp only [jevw, itemsV, opt]
  · rw [compB_nm]
    simp only [jevw, lnV]
    by_cases h1 : l.k = key <;> cases h2 : l.b <;> simp [h1]
theorem view_eq (F : HasFl ds g) (h10 : ds[10]? = some (some d_need_key)) (h13 : ds[13]? = some (some d_spots)) (h22 : ds[22]? = some (some d_view_of)) (h23 : ds[23]? = some (some d_view)) (n : Nat) {ls : List Ln} (hf : ls.all okL = true) (hl : ls.length ≤ 40) (key : Str) (hk : lab key = true) (st : Store) :
    callJ ds g (n + 5) 23 [.pv (.tuple (ls.map lnV)), .pv (.str key)] st = .ok (.pv (viewV ls key)) st := by
  rw [callJ_at h23 rfl]
  unfold d_view b_view
  have B := fun st => need_file_eq (g := g) F n (.tuple (ls.map lnV)) st
  have e2 : filP (.tuple (ls.map lnV)) = true := by rw [filP_V]; simp [hl, hf]
  have K := fun st => need_key_eq (g := g) F.h0 h10 (n + 2) (.str key) st
  have e3 : labP (.str key) = true := hk
  have V := fun st => view_of_eq (g := g) h13 h22 (n + 2) (v := .tuple (ls.map lnV)) (.inr rfl) (by omega) key st
  simp only [jevw, B, e2, K, e3, V]
def readersV : PV := .tuple [.str "all", .str "first", .str "last"]
def rdV (vs : List Str) (r : Str) : PV := if r = "all" then .tuple (vs.map .str) else if vs = [] then .none else if r = "first" then .str (vs.headD Str.empty) else .str (vs.getLastD Str.empty)
theorem at_last_str (ns : List Str) (h : ns ≠ []) : atI (ns.map PyData.str) (-1) = some (.str (ns.getLastD Str.empty)) := by
  obtain ⟨r, x, rfl⟩ : ∃ r x, ns = r ++ [x] := ⟨_, _, (List.dropLast_concat_getLast h).symm⟩
  rw [List.map_append, List.map_singleton, L2.atI_last]
  simp
theorem read_values_eq (h25 : ds[25]? = some (some d_read_values)) (n : Nat) (vs : List Str) (r : Str) (st : Store) : callJ ds g (n + 1) 25 [.pv (.tuple (vs.map .str)), .pv (.str r)] st = .ok (.pv (rdV vs r)) st := by
  rw [callJ_at h25 rfl]
  unfold d_read_values b_read_values
  unfold rdV
  by_cases h1 : r = "all"
  · simp only [jevw, h1]
  · cases vs with
    | nil => simp only [jevw, h1, nil_empty, List.map_nil]
    | cons x xs =>
      have e1 : (PyData.str x :: xs.map PyData.str).isEmpty = false := rfl
      have e2 := at_last_str (x :: xs) (by simp)
      rw [List.map_cons] at e2
      have e3 : ¬ (x :: xs = []) := by simp
      by_cases h2 : r = "first"
      · have h3 : ¬ ("first" : Str) = "all" := by decide
        simp only [jevw, h1, e1, h2, h3, e3]
        rfl
      · simp only [jevw, h1, e1, h2, e2, e3]
theorem need_reader_eq (h24 : ds[24]? = some (some d_need_reader)) (g4 : g.glob[4]? = some readersV) (n : Nat) (r : Str) (st : Store) :
    callJ ds g (n + 1) 24 [.pv (.str r)] st = if r ∈ (["all", "first", "last"] : List Str) then .ok (.pv .none) st else .exc ⟨3, none⟩ st := by
  rw [callJ_at h24 rfl]
  unfold d_need_reader b_need_reader
  have e : inP (.str r) readersV = some (decide (r ∈ (["all", "first", "last"] : List Str))) := in_strs r ["all", "first", "last"]
  simp only [jevw, globF, g4, e]
  by_cases h : r ∈ (["all", "first", "last"] : List Str) <;> simp [h]
theorem read_eq (F : HasFl ds g) (h10 : ds[10]? = some (some d_need_key)) (h13 : ds[13]? = some (some d_spots)) (h22 : ds[22]? = some (some d_view_of)) (h24 : ds[24]? = some (some d_need_reader)) (h25 : ds[25]? = some (some d_read_values)) (h26 : ds[26]? = some (some d_read))
    (g4 : g.glob[4]? = some readersV) (n : Nat) {ls : List Ln} (hf : ls.all okL = true) (hl : ls.length ≤ 40) (key : Str) (hk : lab key = true) (r : Str) (hr : r ∈ (["all", "first", "last"] : List Str)) (st : Store) :
    callJ ds g (n + 5) 26 [.pv (.tuple (ls.map lnV)), .pv (.str key), .pv (.str r)] st = .ok (.pv (rdV (liveN ls key) r)) st := by
  rw [callJ_at h26 rfl]
  unfold d_read b_read
  have B := fun st => need_file_eq (g := g) F n (.tuple (ls.map lnV)) st
  have e2 : filP (.tuple (ls.map lnV)) = true := by rw [filP_V]; simp [hl, hf]
  have K := fun st => need_key_eq (g := g) F.h0 h10 (n + 2) (.str key) st
  have e3 : labP (.str key) = true := hk
  have V := fun st => view_of_eq (g := g) h13 h22 (n + 2) (v := .tuple (ls.map lnV)) (.inr rfl) (by omega) key st
  have N := fun st => need_reader_eq (g := g) h24 g4 (n + 3) r st
  have RV := fun st => read_values_eq (g := g) h25 (n + 3) (liveN ls key) r st
  simp only [jevw, B, e2, K, e3, N, hr, V, viewV, RV]
end
end P
end

section
set_option maxRecDepth 100000
/-! V1: what is seen of a key behind steps hangs on what was seen. -/
namespace P
open PySem PySem.Spec J
/-- the places of the lines that fit -/
def idxs (p : Ln → Bool) (ls : List Ln) : List Nat := (ls.zipIdx.filter fun q => p q.1).map (·.2)
theorem spots_idxs (ls : List Ln) (key : Str) (on : Bool) : spotsN ls key on = idxs (fun l => decide (l.k = key) && decide (l.b = on)) ls := rfl
theorem idxs_nil (p : Ln → Bool) : idxs p [] = [] := rfl
theorem idxs_append (p : Ln → Bool) (A B : List Ln) : idxs p (A ++ B) = idxs p A ++ (idxs p B).map (· + A.length) := by
  unfold idxs
  rw [List.zipIdx_append, List.filter_append, List.map_append]
  congr 1
  rw [Nat.zero_add]
  have : B.zipIdx A.length = B.zipIdx.map fun q => (q.1, q.2 + A.length) := by
    rw [List.zipIdx_eq_map_add]
    apply List.map_congr_left
    intro q _
    rw [Nat.add_comm]
  rw [this, List.filter_map, List.map_map, List.map_map]
  rfl
theorem idxs_one (p : Ln → Bool) (l : Ln) : idxs p [l] = if p l then [0] else [] := by
  unfold idxs
  simp only [List.zipIdx_cons, List.zipIdx_nil, List.filter_cons, List.filter_nil]
  cases p l <;> rfl
theorem idxs_none {p : Ln → Bool} : ∀ {ls : List Ln}, (∀ l ∈ ls, p l = false) → idxs p ls = []
  | [], _ => rfl
  | l :: r, h => by
    have e : l :: r = [l] ++ r := rfl
    rw [e, idxs_append, idxs_one, h l List.mem_cons_self, idxs_none fun x hx => h x (List.mem_cons_of_mem _ hx)]
    rfl
theorem idxs_lt {p : Ln → Bool} {ls : List Ln} {i : Nat} (h : i ∈ idxs p ls) : i < ls.length := by
  unfold idxs at h
  obtain ⟨q, hq, rfl⟩ := List.mem_map.mp h
  have h1 := (List.mem_filter.mp hq).1
  obtain ⟨x, j⟩ := q
  have := List.mem_zipIdx h1
  omega
theorem first_split (p : Ln → Bool) : ∀ ls : List Ln, ((∀ l ∈ ls, p l = false) ∧ idxs p ls = []) ∨ ∃ A l B, ls = A ++ l :: B ∧ (∀ x ∈ A, p x = false) ∧ p l = true ∧ idxs p ls = A.length :: (idxs p B).map (· + (A.length + 1))
  | [] => .inl ⟨by simp, rfl⟩
  | l :: r => by
    cases hl : p l with
    | true =>
      refine .inr ⟨[], l, r, rfl, by simp, hl, ?_⟩
      have e : l :: r = [l] ++ r := rfl
      rw [e, idxs_append, idxs_one, hl]
      rfl
    | false =>
      rcases first_split p r with ⟨h1, h2⟩ | ⟨A, x, B, rfl, h1, h2, h3⟩
      · refine .inl ⟨fun x hx => ?_, ?_⟩
        · rcases List.mem_cons.mp hx with rfl | hx
          · exact hl
          · exact h1 x hx
        · have e : l :: r = [l] ++ r := rfl
          rw [e, idxs_append, idxs_one, hl, h2]; rfl
      · refine .inr ⟨l :: A, x, B, rfl, fun y hy => ?_, h2, ?_⟩
        · rcases List.mem_cons.mp hy with rfl | hy
          · exact hl
          · exact h1 y hy
        · have e : l :: (A ++ x :: B) = [l] ++ (A ++ x :: B) := rfl
          rw [e, idxs_append, idxs_one, hl, h3]
          simp only [Bool.false_eq_true, if_false, List.nil_append, List.map_cons, List.map_map, List.length_cons, List.length_nil]
          congr 1
theorem last_split (p : Ln → Bool) (ls : List Ln) : ((∀ l ∈ ls, p l = false) ∧ idxs p ls = []) ∨ ∃ A l B, ls = A ++ l :: B ∧ (∀ x ∈ B, p x = false) ∧ p l = true ∧ idxs p ls = idxs p A ++ [A.length] := by
  induction ls with
  | nil => exact .inl ⟨by simp, rfl⟩
  | cons x r ih =>
    have e : x :: r = [x] ++ r := rfl
    rcases ih with ⟨h1, h2⟩ | ⟨A, l, B, rfl, h1, h2, h3⟩
    · cases hx : p x with
      | true =>
        refine .inr ⟨[], x, r, rfl, h1, hx, ?_⟩
        rw [e, idxs_append, idxs_one, hx, h2]; rfl
      | false =>
        refine .inl ⟨fun y hy => ?_, ?_⟩
        · rcases List.mem_cons.mp hy with rfl | hy
          · exact hx
          · exact h1 y hy
        · rw [e, idxs_append, idxs_one, hx, h2]; rfl
    · refine .inr ⟨x :: A, l, B, rfl, h1, h2, ?_⟩
      rw [e, idxs_append, h3, List.map_append]
      have e2 : x :: A = [x] ++ A := rfl
      rw [e2, idxs_append, List.append_assoc]
      simp
/-- lines without those at some places -/
theorem without_shift (A B : List Ln) (G : List Nat) : withoutN (A ++ B) (G.map (· + A.length)) = A ++ withoutN B G := by
  unfold withoutN
  rw [List.zipIdx_append, List.filter_append, List.map_append]
  congr 1
  · rw [List.filter_eq_self.mpr, List.zipIdx_map_fst]
    intro q hq
    obtain ⟨x, j⟩ := q
    have := List.mem_zipIdx hq
    simp only [decide_eq_true_eq, List.mem_map, not_exists, not_and]
    intro y _ hy
    omega
  · rw [Nat.zero_add]
    have : B.zipIdx A.length = B.zipIdx.map fun q => (q.1, q.2 + A.length) := by
      rw [List.zipIdx_eq_map_add]
      apply List.map_congr_left
      intro q _
      rw [Nat.add_comm]
    rw [this, List.filter_map, List.map_map]
    have e : (fun q : Ln × Nat => decide (q.2 ∉ G.map (· + A.length))) ∘ (fun q : Ln × Nat => (q.1, q.2 + A.length)) = fun q => decide (q.2 ∉ G) := by
      funext q
      simp only [Function.comp, List.mem_map, decide_eq_decide]
      constructor
      · intro h g; exact h ⟨_, g, rfl⟩
      · rintro h ⟨y, hy, e⟩
        have : y = q.2 := by omega
        exact h (this ▸ hy)
    rw [e]
    rfl
theorem without_front (A B : List Ln) (G : List Nat) (h : ∀ i ∈ G, i < A.length) : withoutN (A ++ B) G = withoutN A G ++ B := by
  unfold withoutN
  rw [List.zipIdx_append, List.filter_append, List.map_append]
  congr 1
  rw [List.filter_eq_self.mpr, List.zipIdx_map_fst]
  intro q hq
  obtain ⟨x, j⟩ := q
  have := List.le_snd_of_mem_zipIdx hq
  simp only [decide_eq_true_eq]
  intro hj
  have := h _ hj
  simp at *
  omega
theorem without_nil (ls : List Ln) : withoutN ls [] = ls := by
  unfold withoutN
  rw [List.filter_eq_self.mpr, List.zipIdx_map_fst]
  intro q _
  simp
theorem without_idxs (p : Ln → Bool) : ∀ ls : List Ln, withoutN ls (idxs p ls) = ls.filter fun l => !p l
  | [] => rfl
  | l :: r => by
    have e : l :: r = [l] ++ r := rfl
    have ih := without_idxs p r
    rw [e, idxs_append, idxs_one, List.filter_append]
    cases hl : p l with
    | false =>
      have h1 := without_shift [l] r (idxs p r)
      simp only [List.nil_append, Bool.false_eq_true, if_false]
      rw [h1, ih]
      simp [hl]
    | true =>
      have h1 := without_shift [l] r (idxs p r)
      rw [ih] at h1
      have h2 : withoutN ([l] ++ r) ([0] ++ (idxs p r).map (· + 1)) = r.filter fun l => !p l := by
        unfold withoutN at h1 ⊢
        simp only [List.singleton_append, List.zipIdx_cons, List.filter_cons, List.mem_cons, List.mem_map, List.length_cons, List.length_nil, Nat.zero_add, true_or, not_true_eq_false, decide_false, Bool.false_eq_true, if_false] at h1 ⊢
        have h3 : ¬ ∃ a, a ∈ idxs p r ∧ a + 1 = 0 := by rintro ⟨a, _, h⟩; omega
        simp only [h3, not_false_eq_true, decide_true, if_true, List.map_cons, List.cons.injEq, true_and] at h1
        rw [← h1]
        congr 1
        apply List.filter_congr
        intro q hq
        obtain ⟨x, j⟩ := q
        have := List.le_snd_of_mem_zipIdx hq
        simp only [decide_eq_decide]
        constructor
        · intro h g; exact h (.inr g)
        · rintro h (g | g)
          · simp at this; omega
          · exact h g
      simpa [hl] using h2
theorem without_idxs_both (p q : Ln → Bool) (hpq : ∀ l, p l = true → q l = false) (ls : List Ln) : withoutN ls (idxs p ls ++ idxs q ls) = ls.filter fun l => !(p l || q l) := by
  rw [← without_idxs (fun l => p l || q l) ls]
  unfold withoutN
  congr 1
  apply List.filter_congr
  intro x hx
  rw [decide_eq_decide]
  refine not_congr ?_
  unfold idxs
  simp only [List.mem_append, List.mem_map, List.mem_filter, Bool.or_eq_true]
  constructor
  · rintro (⟨a, ⟨h1, h2⟩, h3⟩ | ⟨a, ⟨h1, h2⟩, h3⟩)
    · exact ⟨a, ⟨h1, .inl h2⟩, h3⟩
    · exact ⟨a, ⟨h1, .inr h2⟩, h3⟩
  · rintro ⟨a, ⟨h1, h2 | h2⟩, h3⟩
    · exact .inl ⟨a, ⟨h1, h2⟩, h3⟩
    · exact .inr ⟨a, ⟨h1, h2⟩, h3⟩
/-! ### what is seen -/
def liveP (key : Str) (l : Ln) : Bool := decide (l.k = key) && decide (l.b = true)
def deadP (key : Str) (l : Ln) : Bool := decide (l.k = key) && decide (l.b = false)
theorem live_eq (ls : List Ln) (key : Str) : liveN ls key = (ls.filter (liveP key)).map (·.v) := by
  unfold liveN
  congr 1
  apply List.filter_congr
  intro l _
  unfold liveP
  cases l.b <;> simp
theorem dead_eq (ls : List Ln) (key : Str) : deadN ls key = (ls.filter (deadP key)).length := by
  unfold deadN
  rw [spots_idxs]
  unfold idxs
  rw [List.length_map]
  have h := List.filter_map (f := Prod.fst) (p := deadP key) (l := ls.zipIdx)
  rw [List.zipIdx_map_fst] at h
  rw [h, List.length_map]
  rfl
theorem live_append (A B : List Ln) (key : Str) : liveN (A ++ B) key = liveN A key ++ liveN B key := by
  rw [live_eq, live_eq, live_eq, List.filter_append, List.map_append]
theorem dead_append (A B : List Ln) (key : Str) : deadN (A ++ B) key = deadN A key + deadN B key := by
  rw [dead_eq, dead_eq, dead_eq, List.filter_append, List.length_append]
theorem live_none {ls : List Ln} {key : Str} (h : ∀ l ∈ ls, liveP key l = false) : liveN ls key = [] := by
  rw [live_eq, List.filter_eq_nil_iff.mpr (fun l hl => by rw [h l hl]; simp)]
  rfl
theorem dead_none {ls : List Ln} {key : Str} (h : ∀ l ∈ ls, deadP key l = false) : deadN ls key = 0 := by
  rw [dead_eq, List.filter_eq_nil_iff.mpr (fun l hl => by rw [h l hl]; simp)]
  rfl
theorem live_cons (l : Ln) (B : List Ln) (key : Str) : liveN (l :: B) key = (if liveP key l = true then [l.v] else []) ++ liveN B key := by
  rw [live_eq, live_eq, List.filter_cons]
  split <;> rfl
theorem dead_cons (l : Ln) (B : List Ln) (key : Str) : deadN (l :: B) key = (if deadP key l = true then 1 else 0) + deadN B key := by
  rw [dead_eq, dead_eq, List.filter_cons]
  split <;> simp <;> omega
theorem live_nil (key : Str) : liveN [] key = [] := rfl
theorem dead_nil (key : Str) : deadN [] key = 0 := rfl
/-- what is seen of a key behind a step of it -/
def seenS (vs : List Str) (m : Nat) : List Str → List Str × Nat
  | [w, _] =>
    if w = "first" then (vs.take 1, m)
    else if w = "last" then (vs.drop (vs.length - 1), m)
    else if w = "drop" then ([], m)
    else if w = "purge" then ([], 0)
    else ([], m + vs.length)
  | [w, _, v] => if w = "set" then (vs.dropLast ++ [v], if vs = [] then m - 1 else m) else ([v], m)
  | [w, _, v, x] => if w = "add" then (if v ∈ vs then vs else if x = "top" then v :: vs else vs ++ [v], m) else (vs.map fun u => if u = v then x else u, m)
  | _ => (vs, m)
end P
end

section
set_option maxRecDepth 100000
/-! V2: a step and what is seen. -/
namespace P
open PySem PySem.Spec J
theorem step2 (ls : List Ln) (w key : Str) : stepN ls [w, key] = if w = "first" then withoutN ls (spotsN ls key true).tail
    else if w = "last" then withoutN ls (spotsN ls key true).dropLast
    else if w = "drop" then withoutN ls (spotsN ls key true)
    else if w = "purge" then withoutN ls (spotsN ls key true ++ spotsN ls key false)
    else ls.map fun l => ⟨l.k, l.v, l.b && decide (l.k ≠ key)⟩ := rfl
theorem step3 (ls : List Ln) (w key v : Str) : stepN ls [w, key, v] = if w = "set" then setN ls key v else onlyN ls key v := rfl
theorem step4 (ls : List Ln) (w key v x : Str) : stepN ls [w, key, v, x] = if w = "add" then addN ls key v x else ls.map fun l => if l = ⟨key, v, true⟩ then ⟨key, x, true⟩ else l := rfl
theorem seen2 (vs : List Str) (m : Nat) (w k : Str) : seenS vs m [w, k] = if w = "first" then (vs.take 1, m)
    else if w = "last" then (vs.drop (vs.length - 1), m)
    else if w = "drop" then ([], m)
    else if w = "purge" then ([], 0)
    else ([], m + vs.length) := rfl
theorem seen3 (vs : List Str) (m : Nat) (w k v : Str) : seenS vs m [w, k, v] = if w = "set" then (vs.dropLast ++ [v], if vs = [] then m - 1 else m) else ([v], m) := rfl
theorem seen4 (vs : List Str) (m : Nat) (w k v x : Str) : seenS vs m [w, k, v, x] = if w = "add" then (if v ∈ vs then vs else if x = "top" then v :: vs else vs ++ [v], m) else (vs.map fun u => if u = v then x else u, m) := rfl
def vw (ls : List Ln) (key : Str) : List Str × Nat := (liveN ls key, deadN ls key)
theorem liveP_def (key : Str) (l : Ln) : liveP key l = (decide (l.k = key) && decide (l.b = true)) := rfl
theorem spots_live (ls : List Ln) (key : Str) : spotsN ls key true = idxs (liveP key) ls := rfl
theorem spots_dead (ls : List Ln) (key : Str) : spotsN ls key false = idxs (deadP key) ls := rfl
theorem live_dead {key : Str} (l : Ln) (h : liveP key l = true) : deadP key l = false := by
  unfold liveP at h; unfold deadP
  simp only [Bool.and_eq_true, decide_eq_true_eq] at h
  simp [h.1, h.2]
theorem live_filter (key : Str) (p : Ln → Bool) (ls : List Ln) (h : ∀ l ∈ ls, liveP key l = true → p l = true) : liveN (ls.filter p) key = liveN ls key := by
  rw [live_eq, live_eq, List.filter_filter]
  congr 1
  apply List.filter_congr
  intro l hl
  cases q : liveP key l with
  | false => rfl
  | true => rw [h l hl q]; rfl
theorem live_filter0 (key : Str) (p : Ln → Bool) (ls : List Ln) (h : ∀ l ∈ ls, liveP key l = true → p l = false) : liveN (ls.filter p) key = [] := by
  apply live_none
  intro l hl
  obtain ⟨h1, h2⟩ := List.mem_filter.mp hl
  cases q : liveP key l with
  | false => rfl
  | true => rw [h l h1 q] at h2; cases h2
theorem dead_filter (key : Str) (p : Ln → Bool) (ls : List Ln) (h : ∀ l ∈ ls, deadP key l = true → p l = true) : deadN (ls.filter p) key = deadN ls key := by
  rw [dead_eq, dead_eq, List.filter_filter]
  congr 1
  apply List.filter_congr
  intro l hl
  cases q : deadP key l with
  | false => rfl
  | true => rw [h l hl q]; rfl
theorem dead_filter0 (key : Str) (p : Ln → Bool) (ls : List Ln) (h : ∀ l ∈ ls, deadP key l = true → p l = false) : deadN (ls.filter p) key = 0 := by
  apply dead_none
  intro l hl
  obtain ⟨h1, h2⟩ := List.mem_filter.mp hl
  cases q : deadP key l with
  | false => rfl
  | true => rw [h l h1 q] at h2; cases h2
theorem set_mid {A B : List Ln} {l x : Ln} : (A ++ l :: B).set A.length x = A ++ x :: B := by
  rw [List.set_append_right _ _ (Nat.le_refl _)]
  simp
theorem lt_none {key : Str} {ls : List Ln} : (∀ l ∈ ls, liveP key l = false) ↔ liveN ls key = [] := by
  rw [live_eq, List.map_eq_nil_iff, List.filter_eq_nil_iff]
  constructor
  · intro h l hl; rw [h l hl]; simp
  · intro h l hl
    have := h l hl
    simpa using this
theorem liveP_new (key k v : Str) : liveP key ⟨k, v, true⟩ = decide (k = key) := by simp [liveP]
theorem deadP_new (key k v : Str) : deadP key ⟨k, v, true⟩ = false := by simp [deadP]
/-! ### steps of other keys -/
theorem other_new {key k : Str} (h : k ≠ key) (v : Str) : liveP key ⟨k, v, true⟩ = false ∧ deadP key ⟨k, v, true⟩ = false := by
  constructor
  · rw [liveP_new]; simp [h]
  · exact deadP_new _ _ _
theorem key_live {key : Str} {l : Ln} (h : liveP key l = true) : l.k = key ∧ l.b = true := by
  unfold liveP at h; simpa using h
theorem key_dead {key : Str} {l : Ln} (h : deadP key l = true) : l.k = key ∧ l.b = false := by
  unfold deadP at h; simpa using h
theorem not_live {key : Str} {l : Ln} (h : l.k ≠ key) : liveP key l = false := by unfold liveP; simp [h]
theorem not_dead {key : Str} {l : Ln} (h : l.k ≠ key) : deadP key l = false := by unfold deadP; simp [h]
theorem vw_mid_other {A B : List Ln} {l x : Ln} {key : Str} (hl : l.k ≠ key) (hx : x.k ≠ key) : vw (A ++ x :: B) key = vw (A ++ l :: B) key := by
  unfold vw
  rw [live_append, live_append, dead_append, dead_append, live_cons, live_cons, dead_cons, dead_cons, not_live hl, not_live hx, not_dead hl, not_dead hx]
  simp
theorem vw_filter_other {key : Str} (p : Ln → Bool) (ls : List Ln) (h : ∀ l ∈ ls, l.k = key → p l = true) : vw (ls.filter p) key = vw ls key := by
  unfold vw
  rw [live_filter key p ls fun l hl q => h l hl (key_live q).1, dead_filter key p ls fun l hl q => h l hl (key_dead q).1]
theorem vw_add_other {ls : List Ln} {key : Str} {x : Ln} (hx : x.k ≠ key) : vw (ls ++ [x]) key = vw ls key ∧ vw (x :: ls) key = vw ls key := by
  constructor
  · unfold vw
    rw [live_append, dead_append, live_cons, dead_cons, not_live hx, not_dead hx]
    simp [live_nil, dead_nil]
  · unfold vw
    rw [live_cons, dead_cons, not_live hx, not_dead hx]
    simp
theorem without_tail (p : Ln → Bool) (ls : List Ln) : ((∀ l ∈ ls, p l = false) ∧ withoutN ls (idxs p ls).tail = ls) ∨ ∃ A l B, ls = A ++ l :: B ∧ (∀ x ∈ A, p x = false) ∧ p l = true ∧ withoutN ls (idxs p ls).tail = A ++ l :: B.filter fun x => !p x := by
  rcases first_split p ls with ⟨h1, h2⟩ | ⟨A, l, B, rfl, h1, h2, h3⟩
  · exact .inl ⟨h1, by rw [h2]; exact without_nil _⟩
  · refine .inr ⟨A, l, B, rfl, h1, h2, ?_⟩
    rw [h3, List.tail_cons]
    have e : A ++ l :: B = (A ++ [l]) ++ B := by simp
    have e2 : A.length + 1 = (A ++ [l]).length := by simp
    rw [e, e2, without_shift, without_idxs]
    simp
theorem without_init (p : Ln → Bool) (ls : List Ln) : ((∀ l ∈ ls, p l = false) ∧ withoutN ls (idxs p ls).dropLast = ls) ∨ ∃ A l B, ls = A ++ l :: B ∧ (∀ x ∈ B, p x = false) ∧ p l = true ∧ withoutN ls (idxs p ls).dropLast = (A.filter fun x => !p x) ++ l :: B := by
  rcases last_split p ls with ⟨h1, h2⟩ | ⟨A, l, B, rfl, h1, h2, h3⟩
  · exact .inl ⟨h1, by rw [h2]; exact without_nil _⟩
  · refine .inr ⟨A, l, B, rfl, h1, h2, ?_⟩
    rw [h3, List.dropLast_concat, without_front A (l :: B) _ (fun i hi => idxs_lt hi), without_idxs]
theorem vw_other {key k : Str} (hk : k ≠ key) : ∀ (s : List Str), keyS s = k → ∀ ls, vw (stepN ls s) key = vw ls key := by
  intro s hs ls
  have fo : ∀ (p : Ln → Bool), (∀ l, p l = true → l.k = k) → vw (ls.filter fun l => !p l) key = vw ls key := fun p hp => vw_filter_other _ ls fun l _ hl => by
    cases q : p l with
    | false => rfl
    | true => exact absurd ((hp l q).symm.trans hl) hk
  have kl : ∀ l, liveP k l = true → l.k = k := fun l h => (key_live h).1
  have kd : ∀ l, deadP k l = true → l.k = k := fun l h => (key_dead h).1
  have mid : ∀ (A B : List Ln) (l x : Ln), l.k = k → x.k = k → vw (A ++ x :: B) key = vw (A ++ l :: B) key := fun A B l x h1 h2 => vw_mid_other (by rw [h1]; exact hk) (by rw [h2]; exact hk)
  rcases s with _ | ⟨w, _ | ⟨k', _ | ⟨v, _ | ⟨x, _ | ⟨y, r⟩⟩⟩⟩⟩
  · rfl
  · rfl
  · have : k' = k := hs
    subst this
    rw [step2]
    rw [spots_live, spots_dead]
    split
    · rcases without_tail (liveP k') ls with ⟨_, h⟩ | ⟨A, l, B, e, _, h2, h⟩
      · rw [h]
      · rw [h, e]
        have e1 : A ++ l :: B.filter (fun x => !liveP k' x) = (A ++ [l]) ++ B.filter (fun x => !liveP k' x) := by simp
        have e2 : A ++ l :: B = (A ++ [l]) ++ B := by simp
        rw [e1, e2]
        unfold vw
        have := vw_filter_other (key := key) (fun x => !liveP k' x) B fun l _ hl => by rw [not_live (by rw [hl]; exact Ne.symm hk)]; rfl
        unfold vw at this
        rw [live_append (A ++ [l]), live_append (A ++ [l]), dead_append (A ++ [l]), dead_append (A ++ [l]), (Prod.mk.inj this).1, (Prod.mk.inj this).2]
    · split
      · rcases without_init (liveP k') ls with ⟨_, h⟩ | ⟨A, l, B, e, _, h2, h⟩
        · rw [h]
        · rw [h, e]
          unfold vw
          rw [live_append, live_append, dead_append, dead_append]
          have := vw_filter_other (key := key) (fun x => !liveP k' x) A fun l _ hl => by rw [not_live (by rw [hl]; exact Ne.symm hk)]; rfl
          unfold vw at this
          rw [(Prod.mk.inj this).1, (Prod.mk.inj this).2]
      · split
        · rw [without_idxs]; exact fo _ kl
        · split
          · rw [without_idxs_both _ _ (fun l h => live_dead l h)]
            exact fo (fun l => liveP k' l || deadP k' l) fun l h => by
              rcases Bool.or_eq_true_iff.mp h with h | h
              · exact kl l h
              · exact kd l h
          · unfold vw
            rw [live_eq, live_eq, dead_eq, dead_eq]
            have a1 : (ls.map fun l => (⟨l.k, l.v, l.b && decide (l.k ≠ k')⟩ : Ln)).filter (liveP key) = (ls.filter (liveP key)) := by
              rw [List.filter_map]
              have e1 : (liveP key ∘ fun l : Ln => (⟨l.k, l.v, l.b && decide (l.k ≠ k')⟩ : Ln)) = liveP key := by
                funext l
                by_cases q : l.k = key
                · have q2 : l.k ≠ k' := by rw [q]; exact Ne.symm hk
                  simp [liveP, q2]
                · simp [liveP, q]
              rw [e1]
              conv => rhs; rw [← List.map_id (ls.filter (liveP key))]
              apply List.map_congr_left
              intro l hl
              have q := (key_live (List.mem_filter.mp hl).2).1
              have q2 : l.k ≠ k' := by rw [q]; exact Ne.symm hk
              simp [q2]
            have a2 : ((ls.map fun l => (⟨l.k, l.v, l.b && decide (l.k ≠ k')⟩ : Ln)).filter (deadP key)).length = (ls.filter (deadP key)).length := by
              rw [List.filter_map]
              have e1 : (deadP key ∘ fun l : Ln => (⟨l.k, l.v, l.b && decide (l.k ≠ k')⟩ : Ln)) = deadP key := by
                funext l
                by_cases q : l.k = key
                · have q2 : l.k ≠ k' := by rw [q]; exact Ne.symm hk
                  simp [deadP, q2]
                · simp [deadP, q]
              rw [e1, List.length_map]
            rw [a1, a2]
  · have : k' = k := hs
    subst this
    rw [step3]
    have sp : ∀ (p : Ln → Bool) (i : Nat), (∀ l, p l = true → l.k = k') → (idxs p ls).getLast? = some i → vw (ls.set i ⟨k', v, true⟩) key = vw ls key := by
      intro p i hp hi
      rcases last_split p ls with ⟨_, h⟩ | ⟨A, l, B, e, _, h2, h⟩
      · rw [h] at hi; cases hi
      · rw [h, List.getLast?_concat] at hi
        cases hi
        rw [e, set_mid]
        exact mid A B l _ (hp l h2) rfl
    split
    · unfold setN
      rw [spots_live, spots_dead]
      split
      · exact (vw_add_other (by exact hk)).1
      · rename_i i hi
        split at hi
        · exact sp _ i kl hi
        · exact sp _ i kd hi
    · unfold onlyN
      rw [spots_live]
      rcases first_split (liveP k') ls with ⟨_, h⟩ | ⟨A, l, B, e, _, h2, h⟩
      · rw [h]
        exact (vw_add_other (by exact hk)).1
      · rw [h]
        simp only
        rw [e, set_mid]
        have e1 : A ++ (⟨k', v, true⟩ : Ln) :: B = (A ++ [(⟨k', v, true⟩ : Ln)]) ++ B := by simp
        have e2 : A.length + 1 = (A ++ [(⟨k', v, true⟩ : Ln)]).length := by simp
        rw [e1, e2, without_shift, without_idxs]
        have := vw_filter_other (key := key) (fun x => !liveP k' x) B fun l _ hl => by rw [not_live (by rw [hl]; exact Ne.symm hk)]; rfl
        have e3 := mid A B l ⟨k', v, true⟩ (kl l h2) rfl
        rw [← e3, e1]
        unfold vw at this ⊢
        rw [live_append, dead_append, (Prod.mk.inj this).1, (Prod.mk.inj this).2, live_append (A ++ _), dead_append (A ++ _)]
  · have : k' = k := hs
    subst this
    rw [step4]
    split
    · unfold addN
      split
      · rfl
      · split
        · exact (vw_add_other (by exact hk)).2
        · exact (vw_add_other (by exact hk)).1
    · have e1 : ∀ p : Ln → Bool, (∀ u : Str, p ⟨k', u, true⟩ = false) → (ls.map fun l => if l = (⟨k', v, true⟩ : Ln) then (⟨k', x, true⟩ : Ln) else l).filter p = ls.filter p := by
        intro p hp
        clear fo
        induction ls with
        | nil => rfl
        | cons a r ih =>
          rw [List.map_cons, List.filter_cons, List.filter_cons, ih]
          by_cases c : a = ⟨k', v, true⟩
          · rw [if_pos c, c, hp, hp]
            simp
          · rw [if_neg c]
      unfold vw
      rw [live_eq, live_eq, dead_eq, dead_eq, e1 _ (fun u => by simp [liveP, hk]), e1 _ (fun u => by simp [deadP])]
  · rfl
/-! ### steps of the key -/
theorem vw_own {key : Str} : ∀ (s : List Str), okS s = true → keyS s = key → ∀ ls, vw (stepN ls s) key = seenS (liveN ls key) (deadN ls key) s := by
  intro s hok hs ls
  have kl : ∀ l, liveP key l = true → l.k = key := fun l h => (key_live h).1
  have new : ∀ v, liveP key ⟨key, v, true⟩ = true := fun v => by simp [liveP]
  have ld : ∀ l : Ln, liveP key l = true → deadP key l = false := live_dead
  have fl0 : ∀ B : List Ln, liveN (B.filter fun x => !liveP key x) key = [] := fun B => live_filter0 key _ B fun l _ h => by rw [h]; rfl
  have fd0 : ∀ B : List Ln, deadN (B.filter fun x => !liveP key x) key = deadN B key := fun B => dead_filter key _ B fun l _ h => by
    cases q : liveP key l with
    | false => rfl
    | true => rw [ld l q] at h; cases h
  have lv : ∀ {l}, liveP key l = true → ∀ B, liveN (l :: B) key = l.v :: liveN B key ∧ deadN (l :: B) key = deadN B key := fun {l} h B => by
    rw [live_cons, dead_cons, h, ld l h]
    simp
  rcases s with _ | ⟨w, _ | ⟨k', _ | ⟨v, _ | ⟨x, _ | ⟨y, r⟩⟩⟩⟩⟩
  · cases hok
  · cases hok
  · have : k' = key := hs
    subst this
    rw [step2, seen2]
    rw [spots_live, spots_dead]
    split
    · rcases without_tail (liveP k') ls with ⟨h0, h⟩ | ⟨A, l, B, e, h1, h2, h⟩
      · rw [h]
        unfold vw
        rw [lt_none.mp h0]
        rfl
      · rw [h, e]
        unfold vw
        rw [live_append, live_append, dead_append, dead_append, lt_none.mp h1, (lv h2 _).1, (lv h2 _).2, (lv h2 _).1, (lv h2 _).2, fl0, fd0]
        rfl
    · split
      · rcases without_init (liveP k') ls with ⟨h0, h⟩ | ⟨A, l, B, e, h1, h2, h⟩
        · rw [h]
          unfold vw
          rw [lt_none.mp h0]
          rfl
        · rw [h, e]
          unfold vw
          rw [live_append, live_append, dead_append, dead_append, (lv h2 _).1, (lv h2 _).2, fl0, fd0, lt_none.mp h1]
          simp
      · split
        · rw [without_idxs]
          unfold vw
          rw [fl0, fd0]
        · split
          · rw [without_idxs_both _ _ (fun l h => live_dead l h)]
            unfold vw
            rw [live_filter0 k' _ ls fun l _ h => by rw [h]; rfl, dead_filter0 k' _ ls fun l _ h => by rw [h]; simp]
          · unfold vw
            rw [live_eq, dead_eq]
            have a1 : (ls.map fun l => (⟨l.k, l.v, l.b && decide (l.k ≠ k')⟩ : Ln)).filter (liveP k') = [] := by
              rw [List.filter_eq_nil_iff]
              intro l hl
              obtain ⟨m, _, rfl⟩ := List.mem_map.mp hl
              by_cases q : m.k = k' <;> simp [liveP, q]
            have a2 : ∀ zs : List Ln, ((zs.map fun l => (⟨l.k, l.v, l.b && decide (l.k ≠ k')⟩ : Ln)).filter (deadP k')).length = (zs.filter (deadP k')).length + (zs.filter (liveP k')).length := by
              intro zs
              induction zs with
              | nil => rfl
              | cons a r ih =>
                rw [List.map_cons, List.filter_cons, List.filter_cons, List.filter_cons]
                have b1 : deadP k' ⟨a.k, a.v, a.b && decide (a.k ≠ k')⟩ = decide (a.k = k') := by
                  by_cases q : a.k = k' <;> simp [deadP, q]
                rw [b1]
                by_cases q : a.k = k'
                · cases hb : a.b with
                  | true =>
                    have b2 : deadP k' a = false := by simp [deadP, hb]
                    have b3 : liveP k' a = true := by simp [liveP, hb, q]
                    rw [b2, b3]
                    simp only [q, decide_true, if_true, Bool.false_eq_true, if_false, List.length_cons, ih]
                    omega
                  | false =>
                    have b2 : deadP k' a = true := by simp [deadP, hb, q]
                    have b3 : liveP k' a = false := by simp [liveP, hb]
                    rw [b2, b3]
                    simp only [q, decide_true, if_true, Bool.false_eq_true, if_false, List.length_cons, ih]
                    omega
                · have b2 : deadP k' a = false := not_dead q
                  have b3 : liveP k' a = false := not_live q
                  rw [b2, b3]
                  simp only [q, decide_false, Bool.false_eq_true, if_false, ih]
            rw [a1, a2, ← dead_eq]
            have : (ls.filter (liveP k')).length = (liveN ls k').length := by rw [live_eq, List.length_map]
            rw [this]
            rfl
  · have : k' = key := hs
    subst this
    rw [step3, seen3]
    split
    · unfold setN
      rw [spots_live, spots_dead]
      rcases last_split (liveP k') ls with ⟨h0, h⟩ | ⟨A, l, B, e, h1, h2, h⟩
      · rw [h, if_neg (by simp)]
        have hl := lt_none.mp h0
        rcases last_split (deadP k') ls with ⟨h0', h'⟩ | ⟨A, l, B, e, h1, h2, h⟩
        · rw [h']
          simp only [List.getLast?_nil]
          unfold vw
          rw [live_append, dead_append, hl, dead_none h0', (lv (new v) _).1, (lv (new v) _).2]
          rfl
        · rw [h, List.getLast?_concat]
          simp only
          rw [hl]
          have hA : ∀ a ∈ A, liveP k' a = false := fun a ha => h0 a (by rw [e]; simp [ha])
          have hB : ∀ a ∈ B, liveP k' a = false := fun a ha => h0 a (by rw [e]; simp [ha])
          rw [e, set_mid]
          unfold vw
          rw [live_append, dead_append, dead_append, (lv (new v) _).1, (lv (new v) _).2, lt_none.mp hA, lt_none.mp hB, dead_cons, h2, if_pos rfl, if_pos rfl]
          simp only [List.nil_append, List.dropLast_nil]
          congr 1
          omega
      · rw [if_pos (by rw [h]; simp), h, List.getLast?_concat]
        simp only
        rw [e, set_mid]
        unfold vw
        rw [live_append, live_append, dead_append, dead_append, (lv (new v) _).1, (lv (new v) _).2, (lv h2 _).1, (lv h2 _).2, lt_none.mp h1]
        rw [List.dropLast_concat, if_neg (by simp)]
    · unfold onlyN
      rw [spots_live]
      rcases first_split (liveP k') ls with ⟨h0, h⟩ | ⟨A, l, B, e, h1, h2, h⟩
      · rw [h]
        simp only
        unfold vw
        rw [live_append, dead_append, lt_none.mp h0, (lv (new v) _).1, (lv (new v) _).2]
        rfl
      · rw [h]
        simp only
        rw [e, set_mid]
        have e1 : A ++ (⟨k', v, true⟩ : Ln) :: B = (A ++ [(⟨k', v, true⟩ : Ln)]) ++ B := by simp
        have e2 : A.length + 1 = (A ++ [(⟨k', v, true⟩ : Ln)]).length := by simp
        rw [e1, e2, without_shift, without_idxs]
        unfold vw
        rw [live_append, dead_append, fl0, fd0, live_append, dead_append, lt_none.mp h1, (lv (new v) _).1, (lv (new v) _).2, dead_append A (l :: B), (lv h2 _).2]
        simp [live_nil, dead_nil]
  · have : k' = key := hs
    subst this
    rw [step4, seen4]
    split
    · unfold addN
      have hm : (⟨k', v, true⟩ : Ln) ∈ ls ↔ v ∈ liveN ls k' := by
        rw [live_eq]
        constructor
        · intro h
          exact List.mem_map.mpr ⟨_, List.mem_filter.mpr ⟨h, new v⟩, rfl⟩
        · intro h
          obtain ⟨l, hl, rfl⟩ := List.mem_map.mp h
          obtain ⟨h1, h2⟩ := List.mem_filter.mp hl
          obtain ⟨q1, q2⟩ := key_live h2
          obtain ⟨a, b, c⟩ := l
          simp only at q1 q2
          subst q1 q2
          exact h1
      by_cases q : (⟨k', v, true⟩ : Ln) ∈ ls
      · rw [if_pos q, if_pos (hm.mp q)]
        rfl
      · rw [if_neg q, if_neg (fun h => q (hm.mpr h))]
        split
        · unfold vw
          rw [(lv (new v) _).1, (lv (new v) _).2]
        · unfold vw
          rw [live_append, dead_append, (lv (new v) _).1, (lv (new v) _).2]
          rfl
    · have a1 : ∀ zs : List Ln, ((zs.map fun l => if l = (⟨k', v, true⟩ : Ln) then (⟨k', x, true⟩ : Ln) else l).filter (liveP k')).map (·.v) = ((zs.filter (liveP k')).map (·.v)).map fun u => if u = v then x else u := by
        intro zs
        induction zs with
        | nil => rfl
        | cons a r ih =>
          rw [List.map_cons, List.filter_cons, List.filter_cons]
          by_cases c : a = ⟨k', v, true⟩
          · rw [if_pos c, c, new, new]
            simp only [if_true, List.map_cons, ih]
          · rw [if_neg c]
            cases q : liveP k' a with
            | false => simpa using ih
            | true =>
              simp only [if_true, List.map_cons, ih]
              have : ¬ a.v = v := fun h => c (by
                obtain ⟨q1, q2⟩ := key_live q
                obtain ⟨a1, a2, a3⟩ := a
                simp only at q1 q2 h
                rw [q1, q2, h])
              rw [if_neg this]
      have a2 : ∀ zs : List Ln, ((zs.map fun l => if l = (⟨k', v, true⟩ : Ln) then (⟨k', x, true⟩ : Ln) else l).filter (deadP k')).length = (zs.filter (deadP k')).length := by
        intro zs
        induction zs with
        | nil => rfl
        | cons a r ih =>
          rw [List.map_cons, List.filter_cons, List.filter_cons]
          by_cases c : a = ⟨k', v, true⟩
          · rw [if_pos c, c]
            simp only [deadP_new, Bool.false_eq_true, if_false, ih]
          · rw [if_neg c]
            split
            · simp [ih]
            · exact ih
      unfold vw
      rw [live_eq, dead_eq, a1, a2, ← live_eq, ← dead_eq]
  · cases hok
/-- what is seen behind steps -/
def seenN (key : Str) (ss : List (List Str)) (q : List Str × Nat) : List Str × Nat := ss.foldl (fun q s => if keyS s = key then seenS q.1 q.2 s else q) q
theorem vw_done (key : Str) : ∀ (ss : List (List Str)) (ls : List Ln), ss.all okS = true → vw (doneN ls ss) key = seenN key ss (vw ls key)
  | [], ls, _ => rfl
  | s :: ss, ls, h => by
    have h' : okS s = true ∧ ss.all okS = true := by simpa using h
    have ih := vw_done key ss (stepN ls s) h'.2
    unfold doneN seenN at ih ⊢
    rw [List.foldl_cons, List.foldl_cons, ih]
    congr 1
    by_cases hk : keyS s = key
    · rw [if_pos hk]
      exact vw_own s h'.1 hk ls
    · rw [if_neg hk]
      exact vw_other hk s rfl ls
theorem viewV_eq {ls ms : List Ln} {key : Str} (h : vw ls key = vw ms key) : viewV ls key = viewV ms key := by
  unfold vw at h
  unfold viewV
  rw [(Prod.mk.inj h).1, (Prod.mk.inj h).2]
end P
end

section
set_option maxRecDepth 100000
/-! M11: wells and what is drawn of them. -/
namespace P
open PySem PySem.Spec J
open L2 (atI ixN atI_nat)
def wellC (a b : Int) : Cell := .lst [.int a, .int b]
/-- a well at the m-th cell -/
def Well (st : Store) (m : Nat) : Prop := ∃ a b : Int, st[m]? = some (wellC a b) ∧ 0 ≤ b ∧ b < 4294967296
/-- drawn of it -/
def Dr (m : Nat) (st st' : Store) : Prop := ∃ a b : Int, 0 ≤ b ∧ b < 4294967296 ∧ st' = st.set m (wellC a b)
theorem Dr.trans {m : Nat} {st st1 st2 : Store} (h1 : Dr m st st1) (h2 : Dr m st1 st2) : Dr m st st2 := by
  obtain ⟨a, b, x, y, rfl⟩ := h1
  obtain ⟨c, d, z, w, rfl⟩ := h2
  exact ⟨c, d, z, w, by rw [List.set_set]⟩
theorem Dr.len {m : Nat} {st st' : Store} (h : Dr m st st') : st'.length = st.length := by
  obtain ⟨a, b, x, y, rfl⟩ := h
  simp
theorem Dr.well {m : Nat} {st st' : Store} (h : Dr m st st') (w : Well st m) : Well st' m := by
  obtain ⟨a, b, x, y, rfl⟩ := h
  obtain ⟨c, d, e, _, _⟩ := w
  have hm : m < st.length := (List.getElem?_eq_some_iff.mp e).1
  exact ⟨a, b, by rw [List.getElem?_set_self hm], x, y⟩
theorem Well.refl {m : Nat} {st : Store} (w : Well st m) : Dr m st st := by
  obtain ⟨c, d, e, x, y⟩ := w
  obtain ⟨hm, e'⟩ := List.getElem?_eq_some_iff.mp e
  exact ⟨c, d, x, y, by rw [← e']; simp⟩
theorem Dr.take {m : Nat} {st st' : Store} (h : Dr m st st') : st'.take st.length = st' := by
  rw [← h.len, List.take_length]
structure HasDr (ds : List (Option DefJ)) : Prop where
  h120 : ds[120]? = some (some d__law_well)
  h121 : ds[121]? = some (some d__law_pull)
  h122 : ds[122]? = some (some d__law_out)
theorem ix20 : ixN 2 0 = some 0 := rfl
theorem ix21 : ixN 2 1 = some 1 := rfl
theorem mod_int {i j : Int} (h : 0 < j) : modV (.int i) (.int j) = some (.int (i % j)) := if_pos h
theorem div_int {i j : Int} (h1 : 0 < j) (h2 : j < 1073741824) : divV (.int i) (.int j) = some (.int (i / j)) := if_pos (by simp [divOk, h1, h2])
theorem mul_int {i j : Int} (h : mulOk i j = true) : mulV (.int i) (.int j) = some (.int (i * j)) := if_pos h
section
variable {ds : List (Option DefJ)} {g : Glb}
theorem pull_eq (H : HasDr ds) (n m : Nat) {st : Store} (w : Well st m) (k : Int) (h0 : 0 < k) (h1 : k < 1073741824) :
    ∃ (r : Nat) (st' : Store), (r : Int) < k ∧ Dr m st st' ∧ callJ ds g (n + 1) 121 [.ref m, .pv (.int k)] st = .ok (.pv (.int r)) st' := by
  obtain ⟨a, b, hw, b0, b1⟩ := w
  have hm : m < st.length := (List.getElem?_eq_some_iff.mp hw).1
  rw [callJ_at H.h121 rfl]
  unfold d__law_pull b__law_pull
  have R : ∀ (x y : Int) (z : Cell), (st.set m z)[m]? = some z := fun x y z => List.getElem?_set_self hm
  unfold wellC at hw
  by_cases ha : 0 < a
  · refine ⟨(a % k).toNat, st.set m (wellC (a / k) b), ?_, ⟨_, _, b0, b1, rfl⟩, ?_⟩
    · have := Int.emod_lt_of_pos a h0
      have := Int.emod_nonneg a (Int.ne_of_gt h0)
      omega
    · have e : (((a % k).toNat : Nat) : Int) = a % k := Int.toNat_of_nonneg (Int.emod_nonneg a (Int.ne_of_gt h0))
      simp only [jevw, idxRF, hw, stoS, ha, mod_int h0, div_int h0 h1, ix20, e]
      rw [List.take_of_length_le (by simp)]
      rfl
  · let b' := (b * 1103515 + 12820163) % 2147483053
    have c0 : 0 ≤ b' := Int.emod_nonneg _ (by decide)
    have c1 : b' < 2147483053 := Int.emod_lt_of_pos _ (by decide)
    have m1 : mulOk b 1103515 = true := by simp [mulOk]
    have m2 : mulOk b' (b' + 7) = true := by simp [mulOk]; omega
    have d1 : modV (.int (b * 1103515 + 12820163)) (.int 2147483053) = some (.int b') := mod_int (by decide)
    have d2 := mod_int (i := b' * (b' + 7)) (j := 2147481359) (by decide)
    have d3 := div_int (i := b' * (b' + 7) % 2147481359) (j := 503) (by decide) (by decide)
    have d4 := mod_int (i := b' * (b' + 7) % 2147481359 / 503) h0
    refine ⟨(b' * (b' + 7) % 2147481359 / 503 % k).toNat, st.set m (wellC a b'), ?_, ⟨_, _, c0, by omega, rfl⟩, ?_⟩
    · have := Int.emod_lt_of_pos (b' * (b' + 7) % 2147481359 / 503) h0
      have := Int.emod_nonneg (b' * (b' + 7) % 2147481359 / 503) (Int.ne_of_gt h0)
      omega
    · have e : (((b' * (b' + 7) % 2147481359 / 503 % k).toNat : Nat) : Int) = b' * (b' + 7) % 2147481359 / 503 % k := Int.toNat_of_nonneg (Int.emod_nonneg _ (Int.ne_of_gt h0))
      have g1 := R a b (.lst [.int a, .int b'])
      simp only [jevw, idxRF, hw, stoS, ha, mul_int m1, d1, ix21, g1, mul_int m2, d2, d3, d4, e]
      rw [List.take_of_length_le (by simp)]
      rfl
theorem out_eq (H : HasDr ds) (n m : Nat) {st : Store} (w : Well st m) {xs : List PV} (hx : xs ≠ []) (hl : xs.length < 1000) :
    ∃ (x : PV) (st' : Store), x ∈ xs ∧ Dr m st st' ∧ callJ ds g (n + 2) 122 [.ref m, .pv (.list xs)] st = .ok (.pv x) st' := by
  have h0 : 0 < xs.length := List.length_pos_iff.mpr hx
  obtain ⟨r, st', hr, d, e⟩ := pull_eq (g := g) H n m w (xs.length : Int) (by omega) (by omega)
  have hr' : r < xs.length := by omega
  refine ⟨xs[r], st', List.getElem_mem hr', d, ?_⟩
  rw [callJ_at H.h122 rfl]
  unfold d__law_out b__law_out
  have ha : atI xs (r : Int) = some xs[r] := atI_nat (by simp [hr'])
  simp only [jevw, e, ha, d.take]
/-! ### steps -/
structure HasSt (ds : List (Option DefJ)) : Prop extends HasDr ds where
  h123 : ds[123]? = some (some d__law_step)
  h124 : ds[124]? = some (some d__law_script)
  h125 : ds[125]? = some (some d__law_line)
  h126 : ds[126]? = some (some d__law_file)
def DrS (keys s : List Str) : Prop := okS s = true ∧ keyS s ∈ keys ∧ ∀ v ∈ valsS s, v ∈ (["a", "b", "c"] : List Str)
theorem lt_dec {r : Nat} {k : Int} : decide ((r : Int) < k) = decide ((r : Int) < k) := rfl
theorem step_eq (H : HasSt ds) (n m : Nat) {st : Store} (w : Well st m) {keys : List Str} (hk : keys ≠ []) (hl : keys.length < 1000) (hlab : ∀ k ∈ keys, lab k = true) :
    ∃ (s : List Str) (st' : Store), DrS keys s ∧ Dr m st st' ∧ callJ ds g (n + 3) 123 [.ref m, .pv (.list (keys.map .str))] st = .ok (.pv (stepV s)) st' := by
  obtain ⟨x1, st1, hx1, d1, e1⟩ := out_eq (g := g) H.toHasDr n m w (xs := keys.map .str) (by simpa using hk) (by simpa using hl)
  obtain ⟨k, hkm, rfl⟩ := List.mem_map.mp hx1
  have w1 := d1.well w
  obtain ⟨r, st2, hr, d2, e2⟩ := pull_eq (g := g) H.toHasDr (n + 1) m w1 14 (by decide) (by decide)
  have w2 := d2.well w1
  obtain ⟨x3, st3, hx3, d3, e3⟩ := out_eq (g := g) H.toHasDr n m w2 (xs := [.str "a", .str "a", .str "b"]) (by simp) (by simp)
  have w3 := d3.well w2
  obtain ⟨v, hv, rfl⟩ : ∃ v : Str, (v = "a" ∨ v = "b") ∧ x3 = .str v := by
    simp only [List.mem_cons, List.not_mem_nil, or_false] at hx3
    rcases hx3 with rfl | rfl | rfl
    · exact ⟨"a", .inl rfl, rfl⟩
    · exact ⟨"a", .inl rfl, rfl⟩
    · exact ⟨"b", .inr rfl, rfl⟩
  have hvl : lab v = true := by rcases hv with rfl | rfl <;> decide
  have hvm : v ∈ (["a", "b", "c"] : List Str) := by rcases hv with rfl | rfl <;> decide
  have hkl := hlab k hkm
  have d13 := (d1.trans d2).trans d3
  have pre : callJ ds g (n + 3) 123 [.ref m, .pv (.list (keys.map .str))] st = runDef (callJ ds g (n + 2)) g d__law_step [.ref m, .pv (.list (keys.map .str))] st := callJ_at H.h123 rfl
  by_cases c1 : (r : Int) < 3
  · refine ⟨["set", k, v], st3, ⟨?_, hkm, ?_⟩, d13, ?_⟩
    · simp [okS, hkl, hvl]
    · intro u hu; simp [valsS] at hu; rw [hu]; exact hvm
    · rw [pre]
      unfold d__law_step b__law_step
      simp only [jevw, e1, e2, e3, c1, d13.take]
      rfl
  by_cases c2 : (r : Int) < 6
  · obtain ⟨x4, st4, hx4, d4, e4⟩ := out_eq (g := g) H.toHasDr n m w3 (xs := [.str "end", .str "end", .str "top"]) (by simp) (by simp)
    obtain ⟨p, hp, rfl⟩ : ∃ p : Str, p ∈ (["end", "top"] : List Str) ∧ x4 = .str p := by
      simp only [List.mem_cons, List.not_mem_nil, or_false] at hx4
      rcases hx4 with rfl | rfl | rfl
      · exact ⟨"end", by simp, rfl⟩
      · exact ⟨"end", by simp, rfl⟩
      · exact ⟨"top", by simp, rfl⟩
    have d14 := d13.trans d4
    refine ⟨["add", k, v, p], st4, ⟨?_, hkm, ?_⟩, d14, ?_⟩
    · simp only [okS, hkl, hvl]
      simp at hp
      simp [hp]
    · intro u hu
      have : u = v := by
        have hn : ¬ ("add" : Str) = "swap" := by decide
        simpa [valsS, hn] using hu
      rw [this]; exact hvm
    · rw [pre]
      unfold d__law_step b__law_step
      simp only [jevw, e1, e2, e3, c1, c2, e4, d14.take]
      rfl
  by_cases c3 : (r : Int) < 9
  · obtain ⟨x4, st4, hx4, d4, e4⟩ := out_eq (g := g) H.toHasDr n m w3 (xs := [.str "first", .str "last", .str "drop", .str "drop", .str "purge", .str "strike", .str "strike"]) (by simp) (by simp)
    obtain ⟨p, hp, rfl⟩ : ∃ p : Str, p ∈ (["first", "last", "drop", "purge", "strike"] : List Str) ∧ x4 = .str p := by
      simp only [List.mem_cons, List.not_mem_nil, or_false] at hx4
      rcases hx4 with rfl | rfl | rfl | rfl | rfl | rfl | rfl <;> exact ⟨_, by simp, rfl⟩
    have d14 := d13.trans d4
    refine ⟨[p, k], st4, ⟨?_, hkm, ?_⟩, d14, ?_⟩
    · simp only [okS, hkl, hp, decide_true, Bool.and_true]
    · intro u hu; simp [valsS] at hu
    · rw [pre]
      unfold d__law_step b__law_step
      simp only [jevw, e1, e2, e3, c1, c2, c3, e4, d14.take]
      rfl
  by_cases c4 : (r : Int) < 10
  · refine ⟨["only", k, v], st3, ⟨?_, hkm, ?_⟩, d13, ?_⟩
    · simp [okS, hkl, hvl]
    · intro u hu; simp [valsS] at hu; rw [hu]; exact hvm
    · rw [pre]
      unfold d__law_step b__law_step
      simp only [jevw, e1, e2, e3, c1, c2, c3, c4, d13.take]
      rfl
  · obtain ⟨x4, st4, hx4, d4, e4⟩ := out_eq (g := g) H.toHasDr n m w3 (xs := [.tuple [.str "a", .str "b"], .tuple [.str "b", .str "a"], .tuple [.str "a", .str "c"], .tuple [.str "c", .str "b"], .tuple [.str "c", .str "a"]]) (by simp) (by simp)
    obtain ⟨p, q, hp, hq, hpq, rfl⟩ : ∃ p q : Str, p ∈ (["a", "b", "c"] : List Str) ∧ q ∈ (["a", "b", "c"] : List Str) ∧ p ≠ q ∧ x4 = .tuple [.str p, .str q] := by
      simp only [List.mem_cons, List.not_mem_nil, or_false] at hx4
      rcases hx4 with rfl | rfl | rfl | rfl | rfl <;> exact ⟨_, _, by simp, by simp, by decide, rfl⟩
    have d14 := d13.trans d4
    have lb : ∀ u ∈ (["a", "b", "c"] : List Str), lab u = true := by
      intro u hu
      simp only [List.mem_cons, List.not_mem_nil, or_false] at hu
      rcases hu with rfl | rfl | rfl <;> decide
    refine ⟨["swap", k, p, q], st4, ⟨?_, hkm, ?_⟩, d14, ?_⟩
    · simp [okS, hkl, lb p hp, lb q hq, hpq]
    · intro u hu
      simp [valsS] at hu
      rcases hu with rfl | rfl
      · exact hp
      · exact hq
    · rw [pre]
      unfold d__law_step b__law_step
      simp only [jevw, e1, e2, e3, c1, c2, c3, c4, e4, d14.take]
      rfl
/-! ### comprehensions that draw -/
theorem compJ_dr {γ : Type} {body : PV → Store → Res (Option PV)} {m : Nat} (enc : γ → PV) (P : γ → Prop) : ∀ (items : List PV) (acc : List PV) (st : Store), Well st m →
    (∀ x ∈ items, ∀ st, Well st m → ∃ y st', P y ∧ Dr m st st' ∧ body x st = .ok (some (enc y)) st') → ∃ (ys : List γ) (st' : Store), ys.length = items.length ∧ (∀ y ∈ ys, P y) ∧ Dr m st st' ∧ compJ body items acc st = .ok (acc ++ ys.map enc) st'
  | [], acc, st, w, _ => ⟨[], st, rfl, by simp, w.refl, by simp [compJ]⟩
  | x :: xs, acc, st, w, h => by
    obtain ⟨y, st1, hy, d1, e1⟩ := h x List.mem_cons_self st w
    obtain ⟨ys, st2, hl, hp, d2, e2⟩ := compJ_dr enc P xs (acc ++ [enc y]) st1 (d1.well w) fun z hz => h z (List.mem_cons_of_mem _ hz)
    refine ⟨y :: ys, st2, by simp [hl], ?_, d1.trans d2, ?_⟩
    · intro z hz
      rcases List.mem_cons.mp hz with rfl | hz
      · exact hy
      · exact hp z hz
    · unfold compJ
      rw [e1]
      simp only [e2, List.map_cons, List.append_assoc, List.singleton_append]
theorem rng_len (k : Nat) : (rngL 0 (k : Int)).length = k := by
  unfold rngL; simp
theorem compF_dr {γ : Type} {elt : FE} {tg : Tg} {it : FI} {cond : Envr → Store → Res Bool} {own : List Nat} {η : Envr} {st st1 : Store} {m : Nat} (items : List PV) (enc : γ → PV) (P : γ → Prop) (w : Well st1 m) (hi : it η st = .ok items st1) (hl : items.length ≤ line)
    (h : ∀ x ∈ items, ∀ st, Well st m → ∃ y st', P y ∧ Dr m st st' ∧ compB elt cond tg own η x st = .ok (some (enc y)) st') :
    ∃ (ys : List γ) (st' : Store), ys.length = items.length ∧ (∀ y ∈ ys, P y) ∧ Dr m st1 st' ∧ compF elt tg it cond own η st = .ok (.pv (.list (ys.map enc))) st' := by
  obtain ⟨ys, st', h1, h2, h3, h4⟩ := compJ_dr (body := compB elt cond tg own η) enc P items [] st1 w h
  refine ⟨ys, st', h1, h2, h3, ?_⟩
  unfold compF
  rw [hi]
  simp only [Res.bind]
  rw [h4]
  simp only [Res.bind, List.nil_append]
  rw [if_pos (by rw [List.length_map, h1]; exact hl)]
def keysW : List (List Str) := [["k"], ["k"], ["k", "k", "port"]]
def lstS (ks : List Str) : PV := .list (ks.map .str)
theorem script_eq (H : HasSt ds) (n m : Nat) {st : Store} (w : Well st m) (most : Nat) (hm : most < 1000) :
    ∃ (ss : List (List Str)) (ks : List Str) (st' : Store), ks ∈ keysW ∧ ss.length ≤ most ∧ (∀ s ∈ ss, DrS ks s) ∧ Dr m st st' ∧ callJ ds g (n + 4) 124 [.ref m, .pv (.int (most : Int))] st = .ok (.pv (.tuple (ss.map stepV))) st' := by
  obtain ⟨x1, st1, hx1, d1, e1⟩ := out_eq (g := g) H.toHasDr (n + 1) m w (xs := [.list [.str "k"], .list [.str "k"], .list [.str "k", .str "k", .str "port"]]) (by simp) (by simp)
  obtain ⟨ks, hks, rfl⟩ : ∃ ks ∈ keysW, x1 = lstS ks := by
    simp only [List.mem_cons, List.not_mem_nil, or_false] at hx1
    rcases hx1 with rfl | rfl | rfl
    · exact ⟨["k"], by simp [keysW], rfl⟩
    · exact ⟨["k"], by simp [keysW], rfl⟩
    · exact ⟨["k", "k", "port"], by simp [keysW], rfl⟩
  have hk1 : ks ≠ [] ∧ ks.length < 1000 ∧ ∀ k ∈ ks, lab k = true := by
    simp only [keysW, List.mem_cons, List.not_mem_nil, or_false] at hks
    rcases hks with rfl | rfl | rfl <;> refine ⟨by simp, by simp, ?_⟩ <;> intro k hk <;> simp only [List.mem_cons, List.not_mem_nil, or_false] at hk
    · subst hk; decide
    · subst hk; decide
    · rcases hk with rfl | rfl | rfl <;> decide
  have w1 := d1.well w
  obtain ⟨r, st2, hr, d2, e2⟩ := pull_eq (g := g) H.toHasDr (n + 2) m w1 ((most : Int) + 1) (by omega) (by omega)
  have w2 := d2.well w1
  have hr2 : r ≤ most := by omega
  rw [callJ_at H.h124 rfl]
  unfold d__law_script b__law_script
  simp only [jevw, e1]
  have ro : rngOk (r : Int) = true := by simp [rngOk]; omega
  obtain ⟨ss, st3, h1, h2, h3, h4⟩ := compF_dr (elt := callF (callJ ds g (n + 3) 123) (consF (slotF 0) (consF (slotF 2) nilF))) (tg := .nm 3) (cond := trueF) (own := [3]) (η := [some (.ref m), some (.pv (.int (most : Int))), some (.pv (lstS ks)), none])
    (it := rngF (callF (callJ ds g (n + 3) 121) (consF (slotF 0) (consF (binF .Add (slotF 1) (conF (.int 1))) nilF)))) (st := st1) (st1 := st2) (m := m) (rngL 0 (r : Int)) stepV (DrS ks) w2 (by simp only [jevw, e2, ro]) (by rw [rng_len]; unfold line; omega)
    (fun x _ st w => by
      obtain ⟨s, st', a1, a2, a3⟩ := step_eq (g := g) H n m w hk1.1 hk1.2.1 hk1.2.2
      refine ⟨s, st', a1, a2, ?_⟩
      rw [compB_nm]
      unfold lstS
      simp only [jevw, a3])
  refine ⟨ss, ks, st3, hks, by rw [h1, rng_len]; exact hr2, h2, (d1.trans d2).trans h3, ?_⟩
  simp only [jevw, h4, ((d1.trans d2).trans h3).take]
/-! ### files -/
def keysF : List (List Str) := [["k"], ["k", "port"], ["k", "k", "port", "host"]]
def valsF : List Str := ["a", "b", "c", "old", "x", "yy"]
def DrL (keys : List Str) (l : Ln) : Prop := l.k ∈ keys ∧ l.v ∈ valsF
theorem line_eq (H : HasSt ds) (n m : Nat) {st : Store} (w : Well st m) {keys : List Str} (hk : keys ≠ []) (hl : keys.length < 1000) :
    ∃ (l : Ln) (st' : Store), DrL keys l ∧ Dr m st st' ∧ callJ ds g (n + 3) 125 [.ref m, .pv (.list (keys.map .str))] st = .ok (.pv (lnV l)) st' := by
  obtain ⟨x3, st1, hx3, d1, e1⟩ := out_eq (g := g) H.toHasDr n m w (xs := [.str "a", .str "b", .str "c", .str "old", .str "x", .str "yy"]) (by simp) (by simp)
  have w1 := d1.well w
  obtain ⟨v, hv, rfl⟩ : ∃ v ∈ valsF, x3 = .str v := by
    simp only [List.mem_cons, List.not_mem_nil, or_false] at hx3
    rcases hx3 with rfl | rfl | rfl | rfl | rfl | rfl <;> exact ⟨_, by simp [valsF], rfl⟩
  obtain ⟨x1, st2, hx1, d2, e2⟩ := out_eq (g := g) H.toHasDr n m w1 (xs := keys.map .str) (by simpa using hk) (by simpa using hl)
  obtain ⟨k, hkm, rfl⟩ := List.mem_map.mp hx1
  have w2 := d2.well w1
  obtain ⟨r, st3, hr, d3, e3⟩ := pull_eq (g := g) H.toHasDr (n + 1) m w2 3 (by decide) (by decide)
  have d13 := (d1.trans d2).trans d3
  refine ⟨⟨k, v, decide ((0 : Int) < r)⟩, st3, ⟨hkm, hv⟩, d13, ?_⟩
  rw [callJ_at H.h125 rfl]
  unfold d__law_line b__law_line
  simp only [jevw, e1, e2, e3, d13.take]
  rfl
theorem file_eq (H : HasSt ds) (n m : Nat) {st : Store} (w : Well st m) (most : Nat) (hm : most < 1000) :
    ∃ (ls : List Ln) (ks : List Str) (st' : Store), ks ∈ keysF ∧ ls.length ≤ most ∧ (∀ l ∈ ls, DrL ks l) ∧ Dr m st st' ∧ callJ ds g (n + 4) 126 [.ref m, .pv (.int (most : Int))] st = .ok (.pv (.tuple (ls.map lnV))) st' := by
  obtain ⟨x1, st1, hx1, d1, e1⟩ := out_eq (g := g) H.toHasDr (n + 1) m w (xs := [.list [.str "k"], .list [.str "k", .str "port"], .list [.str "k", .str "k", .str "port", .str "host"]]) (by simp) (by simp)
  obtain ⟨ks, hks, rfl⟩ : ∃ ks ∈ keysF, x1 = lstS ks := by
    simp only [List.mem_cons, List.not_mem_nil, or_false] at hx1
    rcases hx1 with rfl | rfl | rfl
    · exact ⟨["k"], by simp [keysF], rfl⟩
    · exact ⟨["k", "port"], by simp [keysF], rfl⟩
    · exact ⟨["k", "k", "port", "host"], by simp [keysF], rfl⟩
  have hk1 : ks ≠ [] ∧ ks.length < 1000 := by
    simp only [keysF, List.mem_cons, List.not_mem_nil, or_false] at hks
    rcases hks with rfl | rfl | rfl <;> exact ⟨by simp, by simp⟩
  have w1 := d1.well w
  obtain ⟨r, st2, hr, d2, e2⟩ := pull_eq (g := g) H.toHasDr (n + 2) m w1 ((most : Int) + 1) (by omega) (by omega)
  have w2 := d2.well w1
  have hr2 : r ≤ most := by omega
  rw [callJ_at H.h126 rfl]
  unfold d__law_file b__law_file
  simp only [jevw, e1]
  have ro : rngOk (r : Int) = true := by simp [rngOk]; omega
  obtain ⟨ls, st3, h1, h2, h3, h4⟩ := compF_dr (elt := callF (callJ ds g (n + 3) 125) (consF (slotF 0) (consF (slotF 2) nilF))) (tg := .nm 3) (cond := trueF) (own := [3]) (η := [some (.ref m), some (.pv (.int (most : Int))), some (.pv (lstS ks)), none])
    (it := rngF (callF (callJ ds g (n + 3) 121) (consF (slotF 0) (consF (binF .Add (slotF 1) (conF (.int 1))) nilF)))) (st := st1) (st1 := st2) (m := m) (rngL 0 (r : Int)) lnV (DrL ks) w2 (by simp only [jevw, e2, ro]) (by rw [rng_len]; unfold line; omega)
    (fun x _ st w => by
      obtain ⟨s, st', a1, a2, a3⟩ := line_eq (g := g) H n m w hk1.1 hk1.2
      refine ⟨s, st', a1, a2, ?_⟩
      rw [compB_nm]
      unfold lstS
      simp only [jevw, a3])
  refine ⟨ls, ks, st3, hks, by rw [h1, rng_len]; exact hr2, h2, (d1.trans d2).trans h3, ?_⟩
  simp only [jevw, h4, ((d1.trans d2).trans h3).take]
end
end P
end

section
set_option maxRecDepth 100000
/-! M12: the laws' own steps. -/
namespace P
open PySem PySem.Spec J
open L2 (atI ixN atI_nat)
theorem pow_int {i j : Int} (h : powOk i j = true) : powV (.int i) (.int j) = some (.int (i ^ j.toNat)) := if_pos h
section
variable {ds : List (Option DefJ)} {g : Glb}
theorem well_eq (H : HasDr ds) (n : Nat) (c salt : Int) (h0 : 0 ≤ salt) (h1 : salt < 1000) (st : Store) :
    ∃ st' : Store, Well st' st.length ∧ (∃ w, st' = st ++ [w]) ∧ callJ ds g (n + 1) 120 [.pv (.int c), .pv (.int salt)] st = .ok (.ref st.length) st' := by
  have m1 : mulOk 1000 salt = true := by simp [mulOk]
  have p1 : powOk 10 18 = true := by decide
  have d1 : modV (.int (c + 1000 * salt)) (.int 715827881) = some (.int ((c + 1000 * salt) % 715827881)) := mod_int (by decide)
  have d2 : divV (.int c) (.int 7) = some (.int (c / 7)) := div_int (by decide) (by decide)
  have c0 : 0 ≤ (c + 1000 * salt) % 715827881 := Int.emod_nonneg _ (by decide)
  have c1 : (c + 1000 * salt) % 715827881 < 715827881 := Int.emod_lt_of_pos _ (by decide)
  have fin : ∀ a : Int, Well (st ++ [Cell.lst [.int a, .int ((c + 1000 * salt) % 715827881 + salt)]]) st.length := fun a =>
    ⟨a, (c + 1000 * salt) % 715827881 + salt, by rw [List.getElem?_append_right (Nat.le_refl _)]; simp [wellC], by omega, by omega⟩
  have ex : ∀ a : Int, exitJ st.length (.ref st.length) (st ++ [Cell.lst [.int a, .int ((c + 1000 * salt) % 715827881 + salt)]]) = .ok (.ref st.length) (st ++ [Cell.lst [.int a, .int ((c + 1000 * salt) % 715827881 + salt)]]) := fun a => by
    show (if st.length < st.length then _ else if st.length = st.length then Res.ok (SV.ref st.length) (List.take (st.length + 1) _) else Res.bad) = _
    rw [if_neg (Nat.lt_irrefl _), if_pos rfl, List.take_of_length_le (by simp)]
  by_cases hc : (10 : Int) ^ 18 ≤ c
  · refine ⟨st ++ [Cell.lst [.int (c / 7), .int ((c + 1000 * salt) % 715827881 + salt)]], fin _, ⟨_, rfl⟩, ?_⟩
    rw [callJ_at H.h120 rfl]
    unfold d__law_well b__law_well
    have hc' : (10 : Int) ^ (Int.toNat 18) ≤ c := hc
    simp only [jevw, pow_int p1, hc', mul_int m1, d1, d2, ex]
  · refine ⟨st ++ [Cell.lst [.int 0, .int ((c + 1000 * salt) % 715827881 + salt)]], fin _, ⟨_, rfl⟩, ?_⟩
    rw [callJ_at H.h120 rfl]
    unfold d__law_well b__law_well
    have hc' : ¬ (10 : Int) ^ (Int.toNat 18) ≤ c := hc
    simp only [jevw, pow_int p1, hc', mul_int m1, d1, d2, ex]
/-! ### the law's own walk through the lines -/
theorem rng_zip (ls : List Ln) : rngL 0 (ls.length : Int) = ls.zipIdx.map fun p => .int (p.2 : Nat) := by
  unfold rngL
  have e : ((ls.length : Int) - 0).toNat = ls.length := by omega
  rw [e]
  apply List.ext_getElem
  · simp
  · intro i h1 h2
    simp
theorem zip_at {ls : List Ln} {p : Ln × Nat} (h : p ∈ ls.zipIdx) : ls[p.2]? = some p.1 := by
  obtain ⟨l, i⟩ := p
  exact List.mk_mem_zipIdx_iff_getElem?.mp h
theorem at_zip {ls : List Ln} {p : Ln × Nat} (h : p ∈ ls.zipIdx) : atI (ls.map lnV) (p.2 : Int) = some (lnV p.1) := by
  apply atI_nat
  rw [List.getElem?_map, zip_at h]
  rfl
def liveF (ls : List Ln) (key : Str) (on : Bool) : List PV := (spotsN ls key on).map intV
end
end P
end

section
set_option maxRecDepth 100000
/-! V3: what is drawn is right; values are equal to themselves; steps keep labels. -/
namespace P
open PySem PySem.Spec J
open L2 (atI ixN atI_nat)
theorem nd_le : ∀ (ys xs : List Str), xs.Nodup → (∀ x ∈ xs, x ∈ ys) → xs.length ≤ ys.length
  | [], xs, _, h => by
    cases xs with
    | nil => simp
    | cons x xs => exact absurd (h x List.mem_cons_self) (by simp)
  | y :: ys, xs, hn, h => by
    by_cases hy : y ∈ xs
    · have h1 := nd_le ys (xs.erase y) (hn.erase y) (fun x hx => by
        have hx' := (List.Nodup.mem_erase_iff hn).mp hx
        rcases List.mem_cons.mp (h x hx'.2) with q | q
        · exact absurd q hx'.1
        · exact q)
      have h2 := List.length_erase_of_mem hy
      have h3 : 0 < xs.length := List.length_pos_of_mem hy
      rw [List.length_cons]
      omega
    · have h1 := nd_le ys xs hn (fun x hx => by
        rcases List.mem_cons.mp (h x hx) with q | q
        · exact absurd (q ▸ hx) hy
        · exact q)
      rw [List.length_cons]
      omega
theorem named_mem {ss : List (List Str)} {k v : Str} (h : v ∈ namedS ss k) : ∃ s ∈ ss, v ∈ valsS s := by
  unfold namedS at h
  obtain ⟨s, hs, hv⟩ := List.mem_flatMap.mp h
  split at hv
  · exact ⟨s, hs, hv⟩
  · simp at hv
theorem drawn_scr {ks : List Str} {ss : List (List Str)} (hl : ss.length ≤ 6) (h : ∀ s ∈ ss, DrS ks s) : scrS ss = true := by
  unfold scrS
  simp only [Bool.and_eq_true, decide_eq_true_eq, List.all_eq_true]
  refine ⟨hl, fun s hs => (h s hs).1, fun k _ => ?_⟩
  have h1 : (sortS (namedS ss k)).length = (onceL (namedS ss k) []).length := List.length_mergeSort _
  rw [h1]
  have h2 := nd_le ["a", "b", "c"] (onceL (namedS ss k) []) (onceL_nd _ _ List.nodup_nil) (fun v hv => by
    rcases (onceL_mem _ _ _).mp hv with q | q
    · obtain ⟨s, hs, q⟩ := named_mem q
      exact (h s hs).2.2 v q
    · simp at q)
  simp at h2
  omega
theorem drawn_fil {ks : List Str} (hk : ks ∈ keysF) {ls : List Ln} (h : ∀ l ∈ ls, DrL ks l) : ls.all okL = true := by
  have kl : ∀ k ∈ ks, lab k = true := by
    intro k hkk
    simp only [keysF, List.mem_cons, List.not_mem_nil, or_false] at hk
    rcases hk with rfl | rfl | rfl <;> simp only [List.mem_cons, List.not_mem_nil, or_false] at hkk
    · subst hkk; decide
    · rcases hkk with rfl | rfl <;> decide
    · rcases hkk with rfl | rfl | rfl | rfl <;> decide
  have vl : ∀ v ∈ valsF, lab v = true := by
    intro v hv
    simp only [valsF, List.mem_cons, List.not_mem_nil, or_false] at hv
    rcases hv with rfl | rfl | rfl | rfl | rfl | rfl <;> decide
  refine List.all_eq_true.mpr fun l hl => ?_
  unfold okL
  rw [kl _ (h l hl).1, vl _ (h l hl).2]
  rfl
theorem loop_inv {body : PV → Envr → Store → RS} (P : Envr → Store → Prop) : ∀ (items : List PV) {η : Envr} {st : Store}, (∀ x ∈ items, ∀ η st, P η st → ∃ η' st', P η' st' ∧ body x η st = .next η' st') → P η st → ∃ η' st', P η' st' ∧ loopJ body items η st = .next η' st'
  | [], η, st, _, h => ⟨η, st, h, rfl⟩
  | x :: xs, η, st, hb, h => by
    obtain ⟨η1, st1, h1, e1⟩ := hb x List.mem_cons_self η st h
    obtain ⟨η2, st2, h2, e2⟩ := loop_inv P xs (fun y hy => hb y (List.mem_cons_of_mem _ hy)) h1
    exact ⟨η2, st2, h2, by rw [loop_next e1, e2]⟩
theorem eqv_strs : ∀ vs : List Str, PyData.eqvAll (vs.map .str) (vs.map .str) = true
  | [] => rfl
  | v :: vs => by
    show (PyData.eqv (.str v) (.str v) && PyData.eqvAll (vs.map .str) (vs.map .str)) = true
    rw [eqv_strs vs, eqv_ss]
    simp
theorem dle_strs (n : Nat) (vs : List Str) : (vs.map PyData.str).all (dle n) = true := by
  rw [List.all_map]
  exact List.all_eq_true.mpr fun v _ => by cases n <;> rfl
theorem eq_rd (vs : List Str) (r : Str) : eqP (rdV vs r) (rdV vs r) = some true := by
  unfold rdV
  split
  · unfold eqP
    rw [if_pos (by rw [Bool.or_self]; exact dle_strs 7 vs)]
    exact congrArg some (eqv_strs vs)
  · split
    · rfl
    · split
      · rw [J.eq_str]; simp
      · rw [J.eq_str]; simp
theorem eq_view (ls : List Ln) (key : Str) : eqP (viewV ls key) (viewV ls key) = some true := by
  unfold eqP viewV
  rw [if_pos (by
    rw [Bool.or_self]
    show (dle 7 (.tuple _) && (dle 7 (.int _) && true)) = true
    rw [show dle 7 (.tuple ((liveN ls key).map PyData.str)) = true from dle_strs 6 _]
    rfl)]
  congr 1
  show (PyData.eqvAll ((liveN ls key).map .str) ((liveN ls key).map .str) && (PyData.eqv (.int _) (.int _) && true)) = true
  rw [eqv_strs, eqv_ii]
  simp
theorem eqv_lns : ∀ ls : List Ln, PyData.eqvAll (ls.map lnV) (ls.map lnV) = true
  | [] => rfl
  | v :: vs => by
    show (PyData.eqv (lnV v) (lnV v) && PyData.eqvAll (vs.map lnV) (vs.map lnV)) = true
    rw [eqv_lns vs, eqv_ln]
    simp
theorem dle_lns (n : Nat) (ls : List Ln) : (ls.map lnV).all (dle (n + 2)) = true := by
  rw [List.all_map]
  exact List.all_eq_true.mpr fun v _ => rfl
theorem eq_file (ls : List Ln) : eqP (.tuple (ls.map lnV)) (.tuple (ls.map lnV)) = some true := by
  unfold eqP
  rw [if_pos (by rw [Bool.or_self]; exact dle_lns 5 ls)]
  exact congrArg some (eqv_lns ls)

theorem without_mem {ls : List Ln} {G : List Nat} {l : Ln} (h : l ∈ withoutN ls G) : l ∈ ls := by
  unfold withoutN at h
  obtain ⟨q, hq, rfl⟩ := List.mem_map.mp h
  obtain ⟨x, i⟩ := q
  exact List.fst_mem_of_mem_zipIdx (List.mem_filter.mp hq).1
theorem step_ok {ls : List Ln} (hl : ls.all okL = true) : ∀ {s : List Str}, okS s = true → (stepN ls s).all okL = true := by
  intro s hs
  rw [List.all_eq_true] at hl ⊢
  have wo : ∀ (xs : List Ln) G, (∀ l ∈ xs, okL l = true) → ∀ l ∈ withoutN xs G, okL l = true := fun xs G h l hl => h l (without_mem hl)
  rcases s with _ | ⟨w, _ | ⟨k, _ | ⟨v, _ | ⟨x, _ | ⟨y, r⟩⟩⟩⟩⟩
  · cases hs
  · cases hs
  · rw [step2]
    split
    · exact wo _ _ hl
    · split
      · exact wo _ _ hl
      · split
        · exact wo _ _ hl
        · split
          · exact wo _ _ hl
          · intro l h
            obtain ⟨m, hm, rfl⟩ := List.mem_map.mp h
            exact hl m hm
  · have hkv : lab k = true ∧ lab v = true := by
      simp only [okS, Bool.and_eq_true] at hs
      exact ⟨hs.1.2, hs.2⟩
    have hn : okL ⟨k, v, true⟩ = true := by simp [okL, hkv]
    have hset : ∀ i, ∀ l ∈ ls.set i ⟨k, v, true⟩, okL l = true := fun i l h => by
      rcases List.mem_or_eq_of_mem_set h with h | h
      · exact hl l h
      · rw [h]; exact hn
    rw [step3]
    split
    · unfold setN
      split
      · intro l h
        rcases List.mem_append.mp h with h | h
        · exact hl l h
        · rw [List.mem_singleton.mp h]; exact hn
      · exact hset _
    · unfold onlyN
      split
      · intro l h
        rcases List.mem_append.mp h with h | h
        · exact hl l h
        · rw [List.mem_singleton.mp h]; exact hn
      · exact wo _ _ (hset _)
  · rw [step4]
    have hh : lab k = true ∧ lab v = true ∧ (w = "add" ∨ lab x = true) := by
      simp only [okS, Bool.and_eq_true, Bool.or_eq_true, decide_eq_true_eq] at hs
      rcases hs with h | h
      · exact ⟨h.1.1.2, h.1.2, .inl h.1.1.1⟩
      · exact ⟨h.1.1.1.2, h.1.1.2, .inr h.1.2⟩
    split
    · have hn : okL ⟨k, v, true⟩ = true := by simp [okL, hh]
      unfold addN
      split
      · exact hl
      · split
        · intro l h
          rcases List.mem_cons.mp h with h | h
          · rw [h]; exact hn
          · exact hl l h
        · intro l h
          rcases List.mem_append.mp h with h | h
          · exact hl l h
          · rw [List.mem_singleton.mp h]; exact hn
    · rename_i hw
      have hx : lab x = true := by
        rcases hh.2.2 with h | h
        · exact absurd h hw
        · exact h
      intro l h
      obtain ⟨m, hm, rfl⟩ := List.mem_map.mp h
      split
      · simp [okL, hh, hx]
      · exact hl m hm
  · cases hs
theorem done_ok : ∀ (ss : List (List Str)) (ls : List Ln), ss.all okS = true → ls.all okL = true → (doneN ls ss).all okL = true
  | [], ls, _, h => h
  | s :: ss, ls, hs, h => by
    have h' : okS s = true ∧ ss.all okS = true := by simpa using hs
    have := done_ok ss (stepN ls s) h'.2 (step_ok h h'.1)
    exact this
/-- steps of other keys do nothing -/
theorem seen_filter (key : Str) : ∀ (ss : List (List Str)) (q : List Str × Nat), seenN key (ss.filter fun s => decide (keyS s = key)) q = seenN key ss q
  | [], q => rfl
  | s :: ss, q => by
    rw [List.filter_cons]
    by_cases h : keyS s = key
    · simp only [h, decide_true, if_true]
      unfold seenN
      rw [List.foldl_cons, List.foldl_cons]
      exact seen_filter key ss _
    · simp only [h, decide_false, Bool.false_eq_true, if_false]
      rw [seen_filter key ss q]
      unfold seenN
      rw [List.foldl_cons, if_neg h]
theorem Dr.app {m : Nat} {A : Store} {c : Cell} {st' : Store} (hm : m < A.length) (h : Dr m (A ++ [c]) st') : ∃ B, Dr m A B ∧ st' = B ++ [c] := by
  obtain ⟨a, b, h1, h2, rfl⟩ := h
  exact ⟨A.set m (wellC a b), ⟨a, b, h1, h2, rfl⟩, by rw [List.set_append_left _ _ hm]⟩
theorem Well.app {m : Nat} {A : Store} {c : Cell} (h : Well A m) : Well (A ++ [c]) m ∧ m < A.length := by
  obtain ⟨a, b, e, h1, h2⟩ := h
  have hm := (List.getElem?_eq_some_iff.mp e).1
  exact ⟨⟨a, b, by rw [List.getElem?_append_left hm]; exact e, h1, h2⟩, hm⟩
theorem get_at {A : Store} {c : Cell} {n : Nat} (h : A.length = n) : (A ++ [c])[n]? = some c := by subst h; simp
theorem set_at {A : Store} {c d : Cell} {n : Nat} (h : A.length = n) : (A ++ [c]).set n d = A ++ [d] := by
  subst h; rw [List.set_append_right _ _ (Nat.le_refl _)]; simp
theorem take_at {A : Store} {c : Cell} {n : Nat} (h : A.length = n) : (A ++ [c]).take n = A := by subst h; simp
end P
end

section
set_option maxRecDepth 100000
/-! V4: scripts and files as texts. -/
namespace P
open PySem PySem.Spec J
open L2 (atI ixN atI_nat)
/-! ### texts of small letters -/
def low (s : Str) : Bool := s.cps.toList.all lowS
def word8 (s : Str) : Bool := low s && decide (1 ≤ s.length) && decide (s.length ≤ 8)
theorem low_fit {s : Str} (h : low s = true) (hl : s.length ≤ line) : fitS s = true := by
  unfold fitS
  simp only [Bool.and_eq_true, decide_eq_true_eq]
  refine ⟨?_, hl⟩
  show s.cps.all (fun c => decide (c < 0x110000)) = true
  rw [← Array.all_toList]
  unfold low at h
  rw [List.all_eq_true] at h ⊢
  intro c hc
  have := h c hc
  unfold lowS at this
  simp only [Bool.and_eq_true, decide_eq_true_eq] at this ⊢
  omega
theorem lab_word {s : Str} (h : lab s = true) : word8 s = true := by
  unfold lab at h
  unfold word8 low
  simp only [Bool.and_eq_true, decide_eq_true_eq] at h ⊢
  exact ⟨⟨h.2, h.1.1⟩, h.1.2⟩
theorem okS_words {s : List Str} (h : okS s = true) : (∀ p ∈ s, word8 p = true) ∧ s ≠ [] ∧ s.length ≤ 4 := by
  have w1 : ∀ w : Str, w ∈ (["first", "last", "drop", "purge", "strike"] : List Str) → word8 w = true := by
    intro w hw
    simp only [List.mem_cons, List.not_mem_nil, or_false] at hw
    rcases hw with rfl | rfl | rfl | rfl | rfl <;> decide +kernel
  have w2 : ∀ w : Str, w ∈ (["set", "only"] : List Str) → word8 w = true := by
    intro w hw
    simp only [List.mem_cons, List.not_mem_nil, or_false] at hw
    rcases hw with rfl | rfl <;> decide +kernel
  have w3 : ∀ w : Str, w ∈ (["end", "top"] : List Str) → word8 w = true := by
    intro w hw
    simp only [List.mem_cons, List.not_mem_nil, or_false] at hw
    rcases hw with rfl | rfl <;> decide +kernel
  have w4 : word8 "add" = true := by decide +kernel
  have w5 : word8 "swap" = true := by decide +kernel
  rcases s with _ | ⟨w, _ | ⟨k, _ | ⟨v, _ | ⟨x, _ | ⟨y, r⟩⟩⟩⟩⟩
  · cases h
  · cases h
  · simp only [okS, Bool.and_eq_true, decide_eq_true_eq] at h
    refine ⟨fun p hp => ?_, by simp, by simp⟩
    simp only [List.mem_cons, List.not_mem_nil, or_false] at hp
    rcases hp with rfl | rfl
    · exact w1 _ h.1
    · exact lab_word h.2
  · simp only [okS, Bool.and_eq_true, decide_eq_true_eq] at h
    refine ⟨fun p hp => ?_, by simp, by simp⟩
    simp only [List.mem_cons, List.not_mem_nil, or_false] at hp
    rcases hp with rfl | rfl | rfl
    · exact w2 _ h.1.1
    · exact lab_word h.1.2
    · exact lab_word h.2
  · simp only [okS, Bool.and_eq_true, Bool.or_eq_true, decide_eq_true_eq] at h
    refine ⟨fun p hp => ?_, by simp, by simp⟩
    simp only [List.mem_cons, List.not_mem_nil, or_false] at hp
    rcases h with h | h
    · rcases hp with rfl | rfl | rfl | rfl
      · rw [h.1.1.1]; exact w4
      · exact lab_word h.1.1.2
      · exact lab_word h.1.2
      · exact w3 _ h.2
    · rcases hp with rfl | rfl | rfl | rfl
      · rw [h.1.1.1.1]; exact w5
      · exact lab_word h.1.1.1.2
      · exact lab_word h.1.1.2
      · exact lab_word h.1.2
  · cases h
theorem low_not {s : Str} (h : low s = true) {c : Nat} (hc : lowS c = false) : c ∉ s.cps.toList := fun hm => by
  unfold low at h
  rw [List.all_eq_true] at h
  rw [h c hm] at hc; cases hc
/-! ### joined -/
theorem cps_join (sep : Str) (ys : List Str) : (Txt.join sep ys).cps.toList = TL.joinL sep.cps.toList (ys.map fun y => y.cps.toList) := by
  rw [TL.join_eq]
  exact TL.tl_join sep ys
theorem joinL_mem {S : List Nat} {c : Nat} : ∀ {ys : List (List Nat)}, c ∈ TL.joinL S ys → c ∈ S ∨ ∃ y ∈ ys, c ∈ y
  | [], h => by simp [TL.joinL] at h
  | [p], h => .inr ⟨p, by simp, h⟩
  | p :: q :: r, h => by
    simp only [TL.joinL, List.mem_append] at h
    rcases h with h | h | h
    · exact .inr ⟨p, by simp, h⟩
    · exact .inl h
    · rcases joinL_mem h with h | ⟨y, hy, h⟩
      · exact .inl h
      · exact .inr ⟨y, List.mem_cons_of_mem _ hy, h⟩
theorem join_mem {sep : Str} {ys : List Str} {c : Nat} (h : c ∈ (Txt.join sep ys).cps.toList) : c ∈ sep.cps.toList ∨ ∃ y ∈ ys, c ∈ y.cps.toList := by
  rw [cps_join] at h
  rcases joinL_mem h with h | ⟨y, hy, h⟩
  · exact .inl h
  · obtain ⟨z, hz, rfl⟩ := List.mem_map.mp hy
    exact .inr ⟨z, hz, h⟩
theorem join_len (sep : Str) (ys : List Str) : (Txt.join sep ys).length ≤ (ys.map (·.length)).sum + ys.length * sep.length := by
  rw [TL.join_eq]
  exact StrLaws.join_length_le sep ys
theorem fit_cps {s : Str} : fitS s = true ↔ (∀ c ∈ s.cps.toList, c < 0x110000) ∧ s.length ≤ line := by
  unfold fitS
  simp only [Bool.and_eq_true, decide_eq_true_eq]
  refine and_congr ?_ Iff.rfl
  show s.cps.all (fun c => decide (c < 0x110000)) = true ↔ _
  rw [← Array.all_toList, List.all_eq_true]
  simp
theorem sum_le {B : Nat} : ∀ (ys : List Str), (∀ y ∈ ys, y.length ≤ B) → (ys.map (·.length)).sum ≤ ys.length * B
  | [], _ => by simp
  | y :: ys, h => by
    have h1 := h y List.mem_cons_self
    have h2 := sum_le ys fun z hz => h z (List.mem_cons_of_mem _ hz)
    simp only [List.map_cons, List.sum_cons, List.length_cons, Nat.succ_mul]
    omega
theorem strsOf_strs : ∀ ys : List Str, strsOf (ys.map PyData.str) = some ys
  | [] => rfl
  | y :: ys => by
    show (strsOf (ys.map PyData.str)).map (y :: ·) = _
    rw [strsOf_strs ys]; rfl
theorem join_fit {sep : Str} {ys : List Str} (hs : fitS sep = true) (h : ∀ y ∈ ys, fitS y = true) (hl : (ys.map (·.length)).sum + ys.length * sep.length ≤ 1000000) : fitS (Txt.join sep ys) = true := by
  rw [fit_cps]
  refine ⟨fun c hc => ?_, by have := join_len sep ys; unfold line; omega⟩
  rcases join_mem hc with h1 | ⟨y, hy, h1⟩
  · exact (fit_cps.mp hs).1 c h1
  · exact (fit_cps.mp (h y hy)).1 c h1
theorem joinL_strs {sep : Str} {ys : List Str} (hs : fitS sep = true) (h : ∀ y ∈ ys, fitS y = true) (hl : (ys.map (·.length)).sum + ys.length * sep.length ≤ 1000000) : J.joinL sep (ys.map .str) = some (.str (Txt.join sep ys)) := by
  unfold J.joinL
  rw [strsOf_strs]
  simp only
  rw [if_pos ⟨hl, join_fit hs h hl⟩]
theorem split_strs {a b : Str} {ys : List Str} (e : Txt.split a b = ys) (hb : (b.length == 0) = false) (ha : a.length ≤ 1000000) (hy : ys.all fitS = true) (hl : ys.length ≤ line) : splitV a (.str b) = some (.list (ys.map .str)) := by
  unfold splitV
  simp only
  rw [e, if_pos ⟨hb, ha, hy, hl⟩]
/-- a separator of one sign -/
theorem split_one {c : Nat} (hc : c < 256) {ys : List Str} (hne : ys ≠ []) (h : ∀ y ∈ ys, c ∉ y.cps.toList) : Txt.split (Txt.join ⟨#[c]⟩ ys) ⟨#[c]⟩ = ys :=
  TL.split_join (s := c) (S := []) rfl (by simp [hc]) hne h
def nlS : Str := "\n"
def spS : Str := " "
def eqS : Str := "="
theorem nl_is : nlS = ⟨#[10]⟩ := by decide +kernel
theorem sp_is : spS = ⟨#[32]⟩ := by decide +kernel
theorem eq_is : eqS = ⟨#[61]⟩ := by decide +kernel
theorem one_fit {c : Nat} (h : c < 256) : fitS ⟨#[c]⟩ = true := by
  rw [fit_cps]
  refine ⟨fun d hd => ?_, by show 1 ≤ line; unfold line; omega⟩
  have : d = c := by simpa using hd
  omega
/-! ### the text of a script -/
def rowS (s : List Str) : Str := Txt.join spS s
def textS (ss : List (List Str)) : Str := Txt.join nlS (ss.map rowS)
theorem word_len {p : Str} (h : word8 p = true) : p.length ≤ 8 ∧ 1 ≤ p.length ∧ low p = true := by
  unfold word8 at h
  simp only [Bool.and_eq_true, decide_eq_true_eq] at h
  exact ⟨h.2, h.1.2, h.1.1⟩
theorem word_fit {p : Str} (h : word8 p = true) : fitS p = true := low_fit (word_len h).2.2 (by have := (word_len h).1; unfold line; omega)
theorem row_sum {s : List Str} (h : okS s = true) : (s.map (·.length)).sum + s.length * spS.length ≤ 36 := by
  obtain ⟨h1, h2, h3⟩ := okS_words h
  have := sum_le (B := 8) s fun p hp => (word_len (h1 p hp)).1
  have e : spS.length = 1 := by decide +kernel
  rw [e]; omega
theorem sp_fit : fitS spS = true := by rw [sp_is]; exact one_fit (by decide)
theorem nl_fit : fitS nlS = true := by rw [nl_is]; exact one_fit (by decide)
theorem eq_fit : fitS eqS = true := by rw [eq_is]; exact one_fit (by decide)
theorem row_fit {s : List Str} (h : okS s = true) : fitS (rowS s) = true := join_fit sp_fit (fun p hp => word_fit ((okS_words h).1 p hp)) (by have := row_sum h; omega)
theorem row_len {s : List Str} (h : okS s = true) : (rowS s).length ≤ 36 := Nat.le_trans (join_len _ _) (row_sum h)
theorem row_join {s : List Str} (h : okS s = true) : J.joinL spS (s.map .str) = some (.str (rowS s)) := joinL_strs sp_fit (fun p hp => word_fit ((okS_words h).1 p hp)) (by have := row_sum h; omega)
theorem text_sum {ss : List (List Str)} (h : ss.all okS = true) (hl : ss.length ≤ 6) : ((ss.map rowS).map (·.length)).sum + (ss.map rowS).length * nlS.length ≤ 1000 := by
  have := sum_le (B := 36) (ss.map rowS) fun p hp => by
    obtain ⟨s, hs, rfl⟩ := List.mem_map.mp hp
    exact row_len (List.all_eq_true.mp h s hs)
  have e : nlS.length = 1 := by decide +kernel
  rw [e]
  rw [List.length_map] at this ⊢
  omega
theorem text_join {ss : List (List Str)} (h : ss.all okS = true) (hl : ss.length ≤ 6) : J.joinL nlS ((ss.map rowS).map .str) = some (.str (textS ss)) := joinL_strs nl_fit (fun p hp => by
    obtain ⟨s, hs, rfl⟩ := List.mem_map.mp hp
    exact row_fit (List.all_eq_true.mp h s hs)) (by have := text_sum h hl; omega)
theorem text_len {ss : List (List Str)} (h : ss.all okS = true) (hl : ss.length ≤ 6) : (textS ss).length ≤ 1000 := Nat.le_trans (join_len _ _) (text_sum h hl)
theorem row_no {s : List Str} (h : okS s = true) {c : Nat} (hc : lowS c = false) (h2 : c ≠ 32) : c ∉ (rowS s).cps.toList := fun hm => by
  rcases join_mem hm with q | ⟨y, hy, q⟩
  · rw [sp_is] at q
    have : c = 32 := by simpa using q
    exact h2 this
  · exact low_not (word_len ((okS_words h).1 y hy)).2.2 hc q
theorem row_split {s : List Str} (h : okS s = true) : Txt.split (rowS s) spS = s := by
  unfold rowS
  rw [sp_is]
  exact split_one (by decide) (okS_words h).2.1 fun y hy => low_not (word_len ((okS_words h).1 y hy)).2.2 (by decide)
theorem text_split {ss : List (List Str)} (h : ss.all okS = true) (hne : ss ≠ []) : Txt.split (textS ss) nlS = ss.map rowS := by
  unfold textS
  rw [nl_is]
  refine split_one (by decide) (by simpa using hne) fun y hy => ?_
  obtain ⟨s, hs, rfl⟩ := List.mem_map.mp hy
  exact row_no (List.all_eq_true.mp h s hs) (by decide) (by decide)
theorem row_splitV {s : List Str} (h : okS s = true) : splitV (rowS s) (.str spS) = some (.list (s.map .str)) :=
  split_strs (row_split h) (by decide +kernel) (by have := row_len h; omega) (List.all_eq_true.mpr fun p hp => word_fit ((okS_words h).1 p hp)) (by have := (okS_words h).2.2; unfold line; omega)
theorem text_splitV {ss : List (List Str)} (h : ss.all okS = true) (hl : ss.length ≤ 6) (hne : ss ≠ []) : splitV (textS ss) (.str nlS) = some (.list ((ss.map rowS).map .str)) :=
  split_strs (text_split h hne) (by decide +kernel) (by have := text_len h hl; omega) (List.all_eq_true.mpr fun p hp => by
    obtain ⟨s, hs, rfl⟩ := List.mem_map.mp hp
    exact row_fit (List.all_eq_true.mp h s hs)) (by rw [List.length_map]; unfold line; omega)
theorem joinL_ne {S : List Nat} : ∀ {ys : List (List Nat)}, ys ≠ [] → (∀ y ∈ ys, y ≠ []) → TL.joinL S ys ≠ []
  | [], h, _ => absurd rfl h
  | [p], _, h => h p (by simp)
  | p :: q :: r, _, h => fun e => by
    simp only [TL.joinL, List.append_eq_nil_iff] at e
    exact h p (by simp) e.1
theorem join_ne {sep : Str} {ys : List Str} (hne : ys ≠ []) (h : ∀ y ∈ ys, 1 ≤ y.length) : Txt.join sep ys ≠ ("" : Str) := fun e => by
  have q := congrArg (fun s : Str => s.cps.toList) e
  simp only [cps_join] at q
  refine joinL_ne (S := sep.cps.toList) (ys := ys.map fun y => y.cps.toList) (by simpa using hne) (fun y hy => ?_) (q.trans (by decide +kernel))
  obtain ⟨z, hz, rfl⟩ := List.mem_map.mp hy
  intro e2
  have := h z hz
  have e3 : z.length = z.cps.toList.length := TL.len_tl z
  rw [e2] at e3
  simp at e3
  omega
theorem len_pos {s : Str} (h : s ≠ ("" : Str)) : 1 ≤ s.length := by
  have e : ("" : Str).cps.toList = [] := by decide +kernel
  rcases Nat.eq_zero_or_pos s.length with q | q
  · exfalso
    apply h
    apply TL.ext_tl
    show s.cps.toList = ("" : Str).cps.toList
    rw [e]
    have := TL.len_tl s
    rw [q] at this
    exact List.length_eq_zero_iff.mp this.symm
  · exact q
theorem text_ne {ss : List (List Str)} (h : ss.all okS = true) (hne : ss ≠ []) : textS ss ≠ ("" : Str) := by
  refine join_ne (by simpa using hne) fun y hy => ?_
  obtain ⟨s, hs, rfl⟩ := List.mem_map.mp hy
  have ho := List.all_eq_true.mp h s hs
  exact len_pos (join_ne (okS_words ho).2.1 fun p hp => (word_len ((okS_words ho).1 p hp)).2.1)
theorem text_nil : textS [] = ("" : Str) := by decide +kernel
/-! ### the text of a file -/
def pairS (l : Ln) : Str := Txt.join eqS [l.k, l.v]
def signS (b : Bool) : Str := if b = true then "" else "#"
def lineS (l : Ln) : Str := ((signS l.b ++ l.k) ++ eqS) ++ l.v
def textF (ls : List Ln) : Str := Txt.join nlS (ls.map lineS)
theorem tl_app (x y : Str) : (x ++ y).cps.toList = x.cps.toList ++ y.cps.toList := TL.tl_append x y
theorem line_cps (l : Ln) : (lineS l).cps.toList = (signS l.b).cps.toList ++ (pairS l).cps.toList := by
  unfold lineS pairS
  rw [cps_join, tl_app, tl_app, tl_app, List.append_assoc, List.append_assoc]
  rfl
theorem sign_true : (signS true).cps.toList = [] := by decide +kernel
theorem sign_false : (signS false).cps.toList = [35] := by decide +kernel
theorem okL_words {l : Ln} (h : okL l = true) : word8 l.k = true ∧ word8 l.v = true := by
  unfold okL at h
  simp only [Bool.and_eq_true] at h
  exact ⟨lab_word h.1, lab_word h.2⟩
theorem pair_words {l : Ln} (h : okL l = true) : ∀ p ∈ [l.k, l.v], word8 p = true := fun p hp => by
  simp only [List.mem_cons, List.not_mem_nil, or_false] at hp
  rcases hp with rfl | rfl
  · exact (okL_words h).1
  · exact (okL_words h).2
theorem len_app (x y : Str) : (x ++ y).length = x.length + y.length := J.length_append x y
theorem sign_len (b : Bool) : (signS b).length ≤ 1 := by cases b <;> decide +kernel
theorem line_len {l : Ln} (h : okL l = true) : (lineS l).length ≤ 18 ∧ 1 ≤ (lineS l).length := by
  have h1 := word_len (okL_words h).1
  have h2 := word_len (okL_words h).2
  have h3 := sign_len l.b
  have h4 : eqS.length = 1 := by decide +kernel
  unfold lineS
  rw [len_app, len_app, len_app, h4]
  omega
theorem sign_fit (b : Bool) : fitS (signS b) = true := by cases b <;> decide +kernel
theorem app_fit {x y : Str} (h1 : fitS x = true) (h2 : fitS y = true) (hl : x.length + y.length ≤ line) : fitS (x ++ y) = true := by
  rw [fit_cps] at *
  refine ⟨fun c hc => ?_, by rw [len_app]; exact hl⟩
  rw [tl_app, List.mem_append] at hc
  rcases hc with hc | hc
  · exact h1.1 c hc
  · exact h2.1 c hc
theorem line_fit {l : Ln} (h : okL l = true) : fitS (lineS l) = true := by
  have h1 := word_len (okL_words h).1
  have h2 := word_len (okL_words h).2
  have h3 := sign_len l.b
  have h4 : eqS.length = 1 := by decide +kernel
  unfold lineS
  refine app_fit (app_fit (app_fit (sign_fit _) (word_fit (okL_words h).1) ?_) eq_fit ?_) (word_fit (okL_words h).2) ?_
  all_goals (try simp only [len_app]) <;> (unfold line; omega)
theorem textF_sum {ls : List Ln} (h : ls.all okL = true) (hl : ls.length ≤ 40) : ((ls.map lineS).map (·.length)).sum + (ls.map lineS).length * nlS.length ≤ 1000 := by
  have := sum_le (B := 18) (ls.map lineS) fun p hp => by
    obtain ⟨l, hm, rfl⟩ := List.mem_map.mp hp
    exact (line_len (List.all_eq_true.mp h l hm)).1
  have e : nlS.length = 1 := by decide +kernel
  rw [e]
  rw [List.length_map] at this ⊢
  omega
theorem textF_join {ls : List Ln} (h : ls.all okL = true) (hl : ls.length ≤ 40) : J.joinL nlS ((ls.map lineS).map .str) = some (.str (textF ls)) := joinL_strs nl_fit (fun p hp => by
    obtain ⟨l, hm, rfl⟩ := List.mem_map.mp hp
    exact line_fit (List.all_eq_true.mp h l hm)) (by have := textF_sum h hl; omega)
theorem textF_len {ls : List Ln} (h : ls.all okL = true) (hl : ls.length ≤ 40) : (textF ls).length ≤ 1000 := Nat.le_trans (join_len _ _) (textF_sum h hl)
theorem pair_no {l : Ln} (h : okL l = true) {c : Nat} (hc : lowS c = false) (h2 : c ≠ 61) : c ∉ (pairS l).cps.toList := fun hm => by
  rcases join_mem hm with q | ⟨y, hy, q⟩
  · rw [eq_is] at q
    have : c = 61 := by simpa using q
    exact h2 this
  · exact low_not (word_len (pair_words h y hy)).2.2 hc q
theorem line_no {l : Ln} (h : okL l = true) : 10 ∉ (lineS l).cps.toList := fun hm => by
  rw [line_cps, List.mem_append] at hm
  rcases hm with hm | hm
  · cases hb : l.b with
    | true => rw [hb, sign_true] at hm; simp at hm
    | false => rw [hb, sign_false] at hm; simp at hm
  · exact pair_no h (by decide) (by decide) hm
theorem textF_split {ls : List Ln} (h : ls.all okL = true) (hl : ls.length ≤ 40) (hne : ls ≠ []) : splitV (textF ls) (.str nlS) = some (.list ((ls.map lineS).map .str)) := by
  refine split_strs ?_ (by decide +kernel) (by have := textF_len h hl; omega) (List.all_eq_true.mpr fun p hp => by
    obtain ⟨l, hm, rfl⟩ := List.mem_map.mp hp
    exact line_fit (List.all_eq_true.mp h l hm)) (by rw [List.length_map]; unfold line; omega)
  unfold textF
  rw [nl_is]
  refine split_one (by decide) (by simpa using hne) fun y hy => ?_
  obtain ⟨l, hm, rfl⟩ := List.mem_map.mp hy
  exact line_no (List.all_eq_true.mp h l hm)
theorem textF_ne {ls : List Ln} (h : ls.all okL = true) (hne : ls ≠ []) : textF ls ≠ ("" : Str) := join_ne (by simpa using hne) fun y hy => by
  obtain ⟨l, hm, rfl⟩ := List.mem_map.mp hy
  exact (line_len (List.all_eq_true.mp h l hm)).2
theorem textF_nil : textF [] = ("" : Str) := by decide +kernel
theorem pair_split {l : Ln} (h : okL l = true) : splitV (pairS l) (.str eqS) = some (.list [.str l.k, .str l.v]) := by
  have h1 := word_len (okL_words h).1
  have h2 := word_len (okL_words h).2
  refine split_strs (ys := [l.k, l.v]) ?_ (by decide +kernel) ?_ (List.all_eq_true.mpr fun p hp => word_fit (pair_words h p hp)) (by show 2 ≤ line; unfold line; omega)
  · unfold pairS
    rw [eq_is]
    exact split_one (by decide) (by simp) fun y hy => low_not (word_len (pair_words h y hy)).2.2 (by decide)
  · have := join_len eqS [l.k, l.v]
    have h4 : eqS.length = 1 := by decide +kernel
    show (Txt.join eqS [l.k, l.v]).length ≤ 1000000
    simp only [List.map_cons, List.map_nil, List.sum_cons, List.sum_nil, List.length_cons, List.length_nil, h4] at this
    omega
/-! ### a line's first sign -/
theorem pair_cons {l : Ln} (h : okL l = true) : ∃ c r, (pairS l).cps.toList = c :: r ∧ lowS c = true := by
  have h1 := word_len (okL_words h).1
  unfold pairS
  rw [cps_join]
  have e : l.k.cps.toList ≠ [] := fun e => by
    have := TL.len_tl l.k
    have e2 : TL.tl l.k = [] := e
    rw [e2] at this
    simp at this
    omega
  obtain ⟨c, r, hc⟩ := List.exists_cons_of_ne_nil e
  refine ⟨c, r ++ (eqS.cps.toList ++ l.v.cps.toList), ?_, ?_⟩
  · show l.k.cps.toList ++ (eqS.cps.toList ++ l.v.cps.toList) = _
    rw [hc]; rfl
  · have := h1.2.2
    unfold low at this
    rw [hc] at this
    simp only [List.all_cons, Bool.and_eq_true] at this
    exact this.1
theorem cut_first (z : Str) {c : Nat} {r : List Nat} (h : z.cps.toList = c :: r) : L2.cutS z none (some 1) = ⟨#[c]⟩ := by
  have hl : z.length = r.length + 1 := by rw [TL.len_tl z]; show z.cps.toList.length = _; rw [h]; rfl
  unfold L2.cutS
  rw [HT.sIx_none, h, show (some (1 : Int)) = some ((1 : Nat) : Int) from rfl, HT.sIx_nat, hl]
  rw [Nat.min_eq_left (by omega)]
  simp
theorem cut_rest (z : Str) {c : Nat} {r : List Nat} (h : z.cps.toList = c :: r) : (L2.cutS z (some 1) none).cps.toList = r := by
  have hl : z.length = r.length + 1 := by rw [TL.len_tl z]; show z.cps.toList.length = _; rw [h]; rfl
  unfold L2.cutS
  rw [HT.sIx_none, h, show (some (1 : Int)) = some ((1 : Nat) : Int) from rfl, HT.sIx_nat, hl]
  rw [Nat.min_eq_left (by omega)]
  simp
theorem hash_is : ("#" : Str) = ⟨#[35]⟩ := by decide +kernel
theorem line_first {l : Ln} (h : okL l = true) : (L2.cutS (lineS l) none (some 1) = ("#" : Str)) ↔ l.b = false := by
  obtain ⟨c, r, hc, hlow⟩ := pair_cons h
  cases hb : l.b with
  | true =>
    have e : (lineS l).cps.toList = c :: r := by rw [line_cps, hb, sign_true, hc]; rfl
    rw [cut_first _ e, hash_is]
    simp only [Bool.true_eq_false, iff_false]
    intro q
    have : c = 35 := by simpa using q
    rw [this] at hlow
    exact absurd hlow (by decide)
  | false =>
    have e : (lineS l).cps.toList = 35 :: (c :: r) := by rw [line_cps, hb, sign_false, hc]; rfl
    rw [cut_first _ e, hash_is]
    simp
theorem line_bare {l : Ln} (h : okL l = true) : (if l.b = false then L2.cutS (lineS l) (some 1) none else lineS l) = pairS l := by
  obtain ⟨c, r, hc, hlow⟩ := pair_cons h
  apply TL.ext_tl
  cases hb : l.b with
  | true =>
    show (lineS l).cps.toList = _
    rw [line_cps, hb, sign_true]; rfl
  | false =>
    show (L2.cutS (lineS l) (some 1) none).cps.toList = _
    have e : (lineS l).cps.toList = 35 :: (c :: r) := by rw [line_cps, hb, sign_false, hc]; rfl
    rw [cut_rest _ e, ← hc]
end P
end

section
set_option maxRecDepth 100000
/-! V5: the defs of texts. -/
namespace P
open PySem PySem.Spec J
open L2 (atI ixN atI_nat)
theorem add_strs {x y : Str} (h : x.length + y.length ≤ line) : addV (.str x) (.str y) = some (.str (x ++ y)) := if_pos h
theorem add_tups {xs ys : List PV} (h : xs.length + ys.length ≤ line) : addV (.tuple xs) (.tuple ys) = some (.tuple (xs ++ ys)) := if_pos h
structure HasTx (ds : List (Option DefJ)) : Prop where
  h71 : ds[71]? = some (some d_script_text)
  h72 : ds[72]? = some (some d_rows_in)
  h73 : ds[73]? = some (some d_read_script)
  h74 : ds[74]? = some (some d_line_text)
  h75 : ds[75]? = some (some d_file_text)
  h76 : ds[76]? = some (some d_line_in)
  h77 : ds[77]? = some (some d_read_file)
section
variable {ds : List (Option DefJ)} {g : Glb}
theorem okS_all {ss : List (List Str)} (hs : scrS ss = true) : ss.length ≤ 6 ∧ ss.all okS = true := by
  unfold scrS at hs
  simp only [Bool.and_eq_true, decide_eq_true_eq] at hs
  exact ⟨hs.1, hs.2.1⟩
theorem script_text_eq (H : HasPk ds g) (T : HasTx ds) (n : Nat) (ss : List (List Str)) (hs : scrS ss = true) (st : Store) :
    callJ ds g (n + 5) 71 [.pv (.tuple (ss.map stepV))] st = .ok (.pv (.str (textS ss))) st := by
  rw [callJ_at T.h71 rfl]
  unfold d_script_text b_script_text
  have A := fun st => need_script_eq (g := g) H n (.tuple (ss.map stepV)) st
  have e1 : scrP (.tuple (ss.map stepV)) = true := by rw [scrP_V]; exact hs
  obtain ⟨h1, h2⟩ := okS_all hs
  have C : ∀ a1 st, compF (txtF joinV (conF (.str " ")) (slotF 1)) (.nm 1) (valF (slotF 0)) trueF [1] [some (.pv (.tuple (ss.map stepV))), a1] st = .ok (.pv (.list ((ss.map rowS).map .str))) st := fun a1 st => by
    rw [compF_tmap ss stepV (fun s => .str (rowS s)) (by simp only [jevw, itemsV, opt]) (fun s hsm => ?_) (by unfold line; omega)]
    · rw [List.map_map]; rfl
    · rw [compB_nm]
      have ho := List.all_eq_true.mp h2 s hsm
      have q := row_join ho
      have e : joinV spS (stepV s) = some (.str (rowS s)) := q
      have e : joinV (" " : Str) (stepV s) = some (.str (rowS s)) := e
      simp only [jevw, txtF, e]
  have E : joinV ("\n" : Str) (.list ((ss.map rowS).map .str)) = some (.str (textS ss)) := text_join h2 h1
  simp only [jevw, A, e1, txtF, C, E]
theorem ne_str (a : Str) (b : Str) : (eqP (.str a) (.str b)).map (!·) = some (!decide (a = b)) := by rw [J.eq_str]; rfl
theorem rows_in_eq (T : HasTx ds) (n : Nat) (z : Str) (rows : List Str) (h : if z = ("" : Str) then rows = [] else splitV z (.str nlS) = some (.list (rows.map .str))) (st : Store) :
    callJ ds g (n + 1) 72 [.pv (.str z)] st = .ok (.pv (.list (rows.map .str))) st := by
  rw [callJ_at T.h72 rfl]
  unfold d_rows_in b_rows_in
  by_cases q : z = ("" : Str)
  · rw [if_pos q] at h
    subst h
    simp only [jevw, q, List.map_nil]
  · rw [if_neg q] at h
    have h : splitV z (.str ("\n" : Str)) = some (.list (rows.map .str)) := h
    simp only [jevw, q, txtF, h]
/-! ### scripts read -/
theorem enumL_rows {γ : Type} (f : γ → PV) (xs : List γ) : enumL (xs.map f) = xs.zipIdx.map fun p => .tuple [.int (p.2 : Nat), f p.1] := by
  unfold enumL
  rw [List.zipIdx_map, List.map_map]
  rfl
theorem readLoop (H : HasPk ds g) (n : Nat) (a0 : Option SV) (st : Store) : ∀ (ps : List (List Str × Nat)) (acc : List (List Str)) (a2 a3 a4 : Option SV), (∀ p ∈ ps, okS p.1 = true) → acc.length + ps.length ≤ 1000 →
    ∃ b2 b3 b4, loopJ (forBd (.tp [2, 3]) (evSs (callJ ds g (n + 2)) g l1_read_script)) (ps.map fun p => .tuple [.int (p.2 : Nat), .str (rowS p.1)]) [a0, some (.pv (.tuple (acc.map stepV))), a2, a3, a4] st = .next [a0, some (.pv (.tuple ((acc ++ ps.map (·.1)).map stepV))), b2, b3, b4] st
  | [], acc, a2, a3, a4, _, _ => ⟨a2, a3, a4, by simp [loop_nil]⟩
  | p :: ps, acc, a2, a3, a4, h, hl => by
    have ho := h p List.mem_cons_self
    rw [List.length_cons] at hl
    obtain ⟨b2, b3, b4, e⟩ := readLoop H n a0 st ps (acc ++ [p.1]) (some (.pv (.int (p.2 : Nat)))) (some (.pv (.str (rowS p.1)))) (some (.pv (stepV p.1))) (fun x hx => h x (List.mem_cons_of_mem _ hx)) (by rw [List.length_append, List.length_singleton]; omega)
    refine ⟨b2, b3, b4, ?_⟩
    have S : ∀ st, callJ ds g (n + 2) 4 [.pv (stepV p.1)] st = .ok (.pv (.bool true)) st := fun st => by
      rw [is_step_eq (g := g) H.h0 H.h3 H.h4 H.g3 H.d0 n (stepV p.1) st, stepP_V, ho]
    have sp : splitV (rowS p.1) (.str (" " : Str)) = some (.list (p.1.map .str)) := row_splitV ho
    have S' : ∀ st, callJ ds g (n + 2) 4 [.pv (.tuple (p.1.map .str))] st = .ok (.pv (.bool true)) st := S
    have A : addV (.tuple (acc.map stepV)) (.tuple [.tuple (p.1.map .str)]) = some (.tuple ((acc ++ [p.1]).map stepV)) := by
      rw [add_tups (by simp only [List.length_map, List.length_singleton]; unfold line; omega), List.map_append]
      rfl
    have hb : forBd (.tp [2, 3]) (evSs (callJ ds g (n + 2)) g l1_read_script) (.tuple [.int (p.2 : Nat), .str (rowS p.1)]) [a0, some (.pv (.tuple (acc.map stepV))), a2, a3, a4] st = .next [a0, some (.pv (.tuple ((acc ++ [p.1]).map stepV))), some (.pv (.int (p.2 : Nat))), some (.pv (.str (rowS p.1))), some (.pv (stepV p.1))] st := by
      unfold l1_read_script
      show evSs _ _ _ ((([a0, some (.pv (.tuple (acc.map stepV))), a2, a3, a4] : Envr).set 2 (some (.pv (.int (p.2 : Nat))))).set 3 (some (.pv (.str (rowS p.1))))) st = _
      simp only [jevw, txtF, sp, S', A]
      rfl
    rw [List.map_cons, loop_next hb, e]
    simp
theorem read_script_eq (H : HasPk ds g) (T : HasTx ds) (n : Nat) (ss : List (List Str)) (hs : scrS ss = true) (st : Store) :
    callJ ds g (n + 4) 73 [.pv (.str (textS ss))] st = .ok (.pv (.tuple (ss.map stepV))) st := by
  rw [callJ_at T.h73 rfl]
  unfold d_read_script b_read_script
  obtain ⟨h1, h2⟩ := okS_all hs
  have R := fun st => rows_in_eq (g := g) T (n + 2) (textS ss) (ss.map rowS) (by
    by_cases q : ss = []
    · subst q; rw [if_pos text_nil]; rfl
    · rw [if_neg (text_ne h2 q)]; exact text_splitV h2 h1 q) st
  have I : ∀ st, callJ ds g (n + 3) 7 [.pv (.tuple (ss.map stepV))] st = .ok (.pv (.bool true)) st := fun st => by
    rw [is_script_eq (g := g) H.h0 H.h3 H.h4 H.h5 H.h6 H.h7 H.g1 H.g2 H.g3 H.d0 n _ st, scrP_V, hs]
  obtain ⟨b2, b3, b4, e⟩ := readLoop (g := g) H (n + 1) (some (.pv (.str (textS ss)))) st ss.zipIdx [] none none none (fun p hp => by
    obtain ⟨x, i⟩ := p
    exact List.all_eq_true.mp h2 x (List.fst_mem_of_mem_zipIdx hp)) (by simp; omega)
  have e : loopJ (forBd (.tp [2, 3]) (evSs (callJ ds g (n + 3)) g l1_read_script)) (enumL (List.map PyData.str (List.map rowS ss))) [some (.pv (.str (textS ss))), some (.pv (.tuple [])), none, none, none] st = .next [some (.pv (.str (textS ss))), some (.pv (.tuple (ss.map stepV))), b2, b3, b4] st := by
    rw [List.map_map, enumL_rows]
    rw [List.zipIdx_map_fst, List.nil_append] at e
    exact e
  simp only [jevw, R, forS, e, I]
/-! ### files -/
theorem line_text_eq (T : HasTx ds) (n : Nat) (l : Ln) (h : okL l = true) (st : Store) : callJ ds g (n + 1) 74 [.pv (lnV l)] st = .ok (.pv (.str (lineS l))) st := by
  rw [callJ_at T.h74 rfl]
  unfold d_line_text b_line_text
  have h1 := word_len (okL_words h).1
  have h2 := word_len (okL_words h).2
  have h4 : eqS.length = 1 := by decide +kernel
  have a1 : ∀ b, addV (.str (signS b)) (.str l.k) = some (.str (signS b ++ l.k)) := fun b => by
    have := sign_len b
    exact add_strs (by unfold line; omega)
  have a2 : ∀ b, addV (.str (signS b ++ l.k)) (.str eqS) = some (.str ((signS b ++ l.k) ++ eqS)) := fun b => by
    have := sign_len b
    exact add_strs (by rw [len_app]; unfold line; omega)
  have a3 : ∀ b, addV (.str ((signS b ++ l.k) ++ eqS)) (.str l.v) = some (.str (((signS b ++ l.k) ++ eqS) ++ l.v)) := fun b => by
    have := sign_len b
    exact add_strs (by rw [len_app, len_app]; unfold line; omega)
  cases hb : l.b with
  | true =>
    have a1 : addV (.str ("" : Str)) (.str l.k) = some (.str (signS true ++ l.k)) := a1 true
    have a2 : addV (.str (signS true ++ l.k)) (.str ("=" : Str)) = some (.str ((signS true ++ l.k) ++ eqS)) := a2 true
    have a3 := a3 true
    simp only [jevw, lnV, hb, a1, a2, a3]
    unfold lineS
    rw [hb]
  | false =>
    have a1 : addV (.str ("#" : Str)) (.str l.k) = some (.str (signS false ++ l.k)) := a1 false
    have a2 : addV (.str (signS false ++ l.k)) (.str ("=" : Str)) = some (.str ((signS false ++ l.k) ++ eqS)) := a2 false
    have a3 := a3 false
    simp only [jevw, lnV, hb, a1, a2, a3]
    unfold lineS
    rw [hb]
theorem file_text_eq (F : HasFl ds g) (T : HasTx ds) (n : Nat) (ls : List Ln) (hf : ls.all okL = true) (hl : ls.length ≤ 40) (st : Store) :
    callJ ds g (n + 5) 75 [.pv (.tuple (ls.map lnV))] st = .ok (.pv (.str (textF ls))) st := by
  rw [callJ_at T.h75 rfl]
  unfold d_file_text b_file_text
  have B := fun st => need_file_eq (g := g) F n (.tuple (ls.map lnV)) st
  have e2 : filP (.tuple (ls.map lnV)) = true := by rw [filP_V]; simp [hl, hf]
  have C : ∀ a1 st, compF (callF (callJ ds g (n + 4) 74) (consF (slotF 1) nilF)) (.nm 1) (valF (slotF 0)) trueF [1] [some (.pv (.tuple (ls.map lnV))), a1] st = .ok (.pv (.list ((ls.map lineS).map .str))) st := fun a1 st => by
    rw [compF_tmap ls lnV (fun l => .str (lineS l)) (by simp only [jevw, itemsV, opt]) (fun l hm => ?_) (by unfold line; omega)]
    · rw [List.map_map]; rfl
    · rw [compB_nm]
      have L := fun st => line_text_eq (g := g) T (n + 3) l (List.all_eq_true.mp hf l hm) st
      simp only [jevw, L]
  have E : joinV ("\n" : Str) (.list ((ls.map lineS).map .str)) = some (.str (textF ls)) := textF_join hf hl
  simp only [jevw, B, e2, txtF, C, E]
theorem sli_str {z : Str} {lo hi : Option Int} : sliV (.str z) lo hi = some (.str (L2.cutS z lo hi)) := rfl
theorem line_in_eq (h0 : ds[0]? = some (some d_is_label)) (T : HasTx ds) (n : Nat) (l : Ln) (h : okL l = true) (st : Store) : callJ ds g (n + 2) 76 [.pv (.str (lineS l))] st = .ok (.pv (lnV l)) st := by
  rw [callJ_at T.h76 rfl]
  unfold d_line_in b_line_in
  have L := fun v st => is_label_eq (g := g) h0 n v st
  have hk : lab l.k = true ∧ lab l.v = true := by unfold okL at h; simpa using h
  have f := line_first h
  have b := line_bare h
  have sp : splitV (pairS l) (.str ("=" : Str)) = some (.list [.str l.k, .str l.v]) := pair_split h
  have k1 : labP (.str l.k) = true := hk.1
  have k2 : labP (.str l.v) = true := hk.2
  cases hb : l.b with
  | true =>
    have f1 : ¬ L2.cutS (lineS l) none (some 1) = ("#" : Str) := fun q => by rw [f.mp q] at hb; cases hb
    rw [if_neg (by rw [hb]; simp)] at b
    rw [← b] at sp
    simp only [jevw, sli_str, f1, txtF, sp, L, k1, k2]
    simp [lnV, hb]
  | false =>
    have f1 : L2.cutS (lineS l) none (some 1) = ("#" : Str) := f.mpr hb
    rw [if_pos hb] at b
    simp only [jevw, sli_str, f1, b, txtF, sp, L, k1, k2]
    simp [lnV, hb]
theorem fileLoop (h0 : ds[0]? = some (some d_is_label)) (T : HasTx ds) (n : Nat) (a0 : Option SV) (st : Store) : ∀ (ps : List (Ln × Nat)) (acc : List Ln) (a2 a3 a4 : Option SV), (∀ p ∈ ps, okL p.1 = true) → acc.length + ps.length ≤ 1000 →
    ∃ b2 b3 b4, loopJ (forBd (.tp [2, 3]) (evSs (callJ ds g (n + 2)) g l1_read_file)) (ps.map fun p => .tuple [.int (p.2 : Nat), .str (lineS p.1)]) [a0, some (.pv (.tuple (acc.map lnV))), a2, a3, a4] st = .next [a0, some (.pv (.tuple ((acc ++ ps.map (·.1)).map lnV))), b2, b3, b4] st
  | [], acc, a2, a3, a4, _, _ => ⟨a2, a3, a4, by simp [loop_nil]⟩
  | p :: ps, acc, a2, a3, a4, h, hl => by
    have ho := h p List.mem_cons_self
    rw [List.length_cons] at hl
    obtain ⟨b2, b3, b4, e⟩ := fileLoop h0 T n a0 st ps (acc ++ [p.1]) (some (.pv (.int (p.2 : Nat)))) (some (.pv (.str (lineS p.1)))) (some (.pv (lnV p.1))) (fun x hx => h x (List.mem_cons_of_mem _ hx)) (by rw [List.length_append, List.length_singleton]; omega)
    refine ⟨b2, b3, b4, ?_⟩
    have S := fun st => line_in_eq (g := g) h0 T n p.1 ho st
    have A : addV (.tuple (acc.map lnV)) (.tuple [lnV p.1]) = some (.tuple ((acc ++ [p.1]).map lnV)) := by
      rw [add_tups (by simp only [List.length_map, List.length_singleton]; unfold line; omega), List.map_append]
      rfl
    have N : isNon (lnV p.1) = false := rfl
    have hb : forBd (.tp [2, 3]) (evSs (callJ ds g (n + 2)) g l1_read_file) (.tuple [.int (p.2 : Nat), .str (lineS p.1)]) [a0, some (.pv (.tuple (acc.map lnV))), a2, a3, a4] st = .next [a0, some (.pv (.tuple ((acc ++ [p.1]).map lnV))), some (.pv (.int (p.2 : Nat))), some (.pv (.str (lineS p.1))), some (.pv (lnV p.1))] st := by
      unfold l1_read_file
      show evSs _ _ _ ((([a0, some (.pv (.tuple (acc.map lnV))), a2, a3, a4] : Envr).set 2 (some (.pv (.int (p.2 : Nat))))).set 3 (some (.pv (.str (lineS p.1))))) st = _
      simp only [jevw, S, A]
      exact if_neg (show ¬ (isNon (lnV p.1) = true) from by rw [N]; simp)
    rw [List.map_cons, loop_next hb, e]
    simp
theorem read_file_eq (F : HasFl ds g) (T : HasTx ds) (n : Nat) (ls : List Ln) (hf : ls.all okL = true) (hl : ls.length ≤ 40) (st : Store) :
    callJ ds g (n + 4) 77 [.pv (.str (textF ls))] st = .ok (.pv (.tuple (ls.map lnV))) st := by
  rw [callJ_at T.h77 rfl]
  unfold d_read_file b_read_file
  have R := fun st => rows_in_eq (g := g) T (n + 2) (textF ls) (ls.map lineS) (by
    by_cases q : ls = []
    · subst q; rw [if_pos textF_nil]; rfl
    · rw [if_neg (textF_ne hf q)]; exact textF_split hf hl q) st
  have I : ∀ st, callJ ds g (n + 3) 2 [.pv (.tuple (ls.map lnV))] st = .ok (.pv (.bool true)) st := fun st => by
    rw [is_file_eq (g := g) F.h0 F.h1 F.h2 F.g0 n _ st, filP_V]; simp [hl, hf]
  obtain ⟨b2, b3, b4, e⟩ := fileLoop (g := g) F.h0 T (n + 1) (some (.pv (.str (textF ls)))) st ls.zipIdx [] none none none (fun p hp => by
    obtain ⟨x, i⟩ := p
    exact List.all_eq_true.mp hf x (List.fst_mem_of_mem_zipIdx hp)) (by simp; omega)
  have e : loopJ (forBd (.tp [2, 3]) (evSs (callJ ds g (n + 3)) g l1_read_file)) (enumL (List.map PyData.str (List.map lineS ls))) [some (.pv (.str (textF ls))), some (.pv (.tuple [])), none, none, none] st = .next [some (.pv (.str (textF ls))), some (.pv (.tuple (ls.map lnV))), b2, b3, b4] st := by
    rw [List.map_map, enumL_rows]
    rw [List.zipIdx_map_fst, List.nil_append] at e
    exact e
  simp only [jevw, R, forS, e, I]
end
end P
end

section
set_option maxRecDepth 100000
/-! V6: the laws' own is_label .. is_script. -/
namespace P
open PySem PySem.Spec J
open L2 (atI ixN atI_nat)
structure HasIsl (ds : List (Option DefJ)) : Prop where
  h127 : ds[127]? = some (some d__law_is_label)
  h128 : ds[128]? = some (some d__law_is_line)
  h129 : ds[129]? = some (some d__law_is_file)
structure HasIs (ds : List (Option DefJ)) : Prop extends HasIsl ds where
  h130 : ds[130]? = some (some d__law_values_named)
  h131 : ds[131]? = some (some d__law_is_step)
  h132 : ds[132]? = some (some d__law_is_script)
def alphaS : Str := "abcdefghijklmnopqrstuvwxyz"
theorem alpha_codes : alphaS.cps.toList = List.range' 97 26 := by decide +kernel
theorem alpha_low (c : Nat) : decide (c ∈ alphaS.cps.toList) = lowS c := by
  rw [alpha_codes, Bool.eq_iff_iff]
  unfold lowS
  simp only [decide_eq_true_eq, Bool.and_eq_true, List.mem_range'_1]
  omega
theorem sign_in (c : Nat) : inP (.str ⟨#[c]⟩) (.str alphaS) = some (lowS c) := by
  show signIn (.str ⟨#[c]⟩) alphaS = _
  unfold signIn
  show some (decide (c ∈ alphaS.cps.toList)) = _
  rw [alpha_low]
theorem none_left {γ : Type} (p : γ → Bool) (e : γ → PV) : ∀ xs : List γ, ((xs.filter fun x => !p x).map e).isEmpty = xs.all p
  | [] => rfl
  | x :: xs => by
    rw [List.filter_cons, List.all_cons]
    cases h : p x with
    | true => simpa [h] using none_left p e xs
    | false => simp
section
variable {ds : List (Option DefJ)} {g : Glb}
theorem law_label_eq (H : HasIsl ds) (n : Nat) (v : PV) (st : Store) : callJ ds g (n + 1) 127 [.pv v] st = .ok (.pv (.bool (labP v))) st := by
  rw [callJ_at H.h127 rfl]
  unfold d__law_is_label b__law_is_label
  cases v with
  | str s =>
    unfold labP lab
    by_cases h1 : 1 ≤ (s.length : Int)
    · have h1' : 1 ≤ s.length := by omega
      by_cases h2 : (s.length : Int) ≤ 8
      · have h2' : s.length ≤ 8 := by omega
        have C : ∀ a1 st, compF (slotF 1) (.nm 1) (valF (slotF 0)) (tst (cmpF .NotIn (slotF 1) (conF (.str "abcdefghijklmnopqrstuvwxyz")))) [1] [some (.pv (.str s)), a1] st = .ok (.pv (.list ((s.cps.toList.filter fun c => !lowS c).map fun c => .str ⟨#[c]⟩))) st := fun a1 st => by
          rw [compF_typed s.cps.toList (fun c => .str ⟨#[c]⟩) (fun c => if (!lowS c) = true then some (.str ⟨#[c]⟩) else none) (by simp only [jevw, itemsV, opt]) (fun c _ => ?_) (by have : s.cps.toList.length = s.length := rfl; rw [this]; unfold line; omega)]
          · rw [filterMap_if]
          · rw [compB_nm]
            have e : inP (.str ⟨#[c]⟩) (.str ("abcdefghijklmnopqrstuvwxyz" : Str)) = some (lowS c) := sign_in c
            simp only [jevw, e]
            cases lowS c <;> simp
        simp only [jevw, h1, h2, C, none_left]
        simp [h1', h2']
      · have h2' : ¬ s.length ≤ 8 := by omega
        simp only [jevw, h1, h2]
        simp [h2']
    · have h1' : ¬ 1 ≤ s.length := by omega
      simp only [jevw, h1]
      simp [h1']
  | _ => simp only [jev]; rfl
theorem law_line_eq (H : HasIsl ds) (n : Nat) (v : PV) (st : Store) : callJ ds g (n + 2) 128 [.pv v] st = .ok (.pv (.bool (linP v))) st := by
  rw [callJ_at H.h128 rfl]
  unfold d__law_is_line b__law_is_line
  have L := fun v st => law_label_eq (g := g) H n v st
  cases v with
  | tuple xs =>
    match xs with
    | [a, b, c] =>
      have e3 : decide (((3 : Nat) : Int) = 3) = true := by decide
      simp only [jevw, L, isBl_eq, e3]
      unfold linP
      cases ha : labP a <;> cases hb : labP b <;> cases hc : isBl c <;> simp [ha, hb, hc]
    | [] => simp only [jev]; rfl
    | [a] => simp only [jev]; rfl
    | [a, b] => simp only [jev]; rfl
    | a :: b :: c :: d :: r =>
      have e : decide (((r.length + 1 + 1 + 1 + 1 : Nat) : Int) = 3) = false := by simp; omega
      simp only [jevw, e]
      rfl
  | _ => simp only [jev]; rfl
theorem law_file_eq (H : HasIsl ds) (n : Nat) (v : PV) (st : Store) : callJ ds g (n + 3) 129 [.pv v] st = .ok (.pv (.bool (filP v))) st := by
  rw [callJ_at H.h129 rfl]
  unfold d__law_is_file b__law_is_file
  have L := fun v st => law_line_eq (g := g) H n v st
  cases v with
  | tuple xs =>
    by_cases h : (40 : Int) < xs.length
    · have h' : ¬ xs.length ≤ 40 := by omega
      simp only [jevw, h]
      simp [filP, h']
    · have h' : xs.length ≤ 40 := by omega
      have C : ∀ a1 st, compF (slotF 1) (.nm 1) (valF (slotF 0)) (tst (notF (callF (callJ ds g (n + 2) 128) (consF (slotF 1) nilF)))) [1] [some (.pv (.tuple xs)), a1] st = .ok (.pv (.list ((xs.filter fun x => !linP x).map id))) st := fun a1 st => by
        rw [compF_eq (fun x => if (!linP x) = true then some (id x) else none) (items := xs) (by simp only [jevw, itemsV, opt]) (fun x _ => ?_) (by unfold line; omega)]
        · rw [filterMap_if]
        · rw [compB_nm]
          simp only [jevw, L]
          cases linP x <;> simp
      simp only [jevw, h, C, none_left]
      simp [filP, h']
  | _ => simp only [jev]; rfl
def manyS (w : Str) : Nat := if w = "set" then 3 else if w = "add" then 4 else if w = "only" then 3 else if w = "swap" then 4 else 2
theorem in_nine (w : Str) : inP (.str w) (.tuple [.str "set", .str "add", .str "only", .str "swap", .str "first", .str "last", .str "drop", .str "purge", .str "strike"]) = some (decide (w ∈ (["set", "add", "only", "swap", "first", "last", "drop", "purge", "strike"] : List Str))) := in_strs w ["set", "add", "only", "swap", "first", "last", "drop", "purge", "strike"]
theorem cut_from1 {x : PV} {r : List PV} : cutL (x :: r) (some 1) none = r := cut_1
theorem cut_1to3 {x a b c : PV} : cutL [x, a, b, c] (some 1) (some 3) = [a, b] := rfl
theorem sli_tp {xs : List PV} {lo hi : Option Int} : sliV (.tuple xs) lo hi = some (.tuple (cutL xs lo hi)) := rfl
theorem labs_eq (H : HasIs ds) (n : Nat) (xs : List PV) (hl : xs.length ≤ 10) (a0 a1 a3 : Option SV) (st : Store) :
    compF (slotF 3) (.nm 3) (valF (slotF 2)) (tst (notF (callF (callJ ds g (n + 1) 127) (consF (slotF 3) nilF)))) [3] [a0, a1, some (.pv (.tuple xs)), a3] st = .ok (.pv (.list ((xs.filter fun x => !labP x).map id))) st := by
  rw [compF_eq (fun x => if (!labP x) = true then some (id x) else none) (items := xs) (by simp only [jevw, itemsV, opt]) (fun x _ => ?_) (by unfold line; omega)]
  · rw [filterMap_if]
  · rw [compB_nm]
    simp only [jevw, law_label_eq (g := g) H.toHasIsl n]
    cases labP x <;> simp
abbrev manyL : List (Str × Int) := [("set", 3), ("add", 4), ("only", 3), ("swap", 4)]
abbrev nineL : List Str := ["set", "add", "only", "swap", "first", "last", "drop", "purge", "strike"]
theorem ls_bad (H : HasIs ds) (n : Nat) {w : Str} (hw : w ∈ nineL) {m : Int} (hm : (manyL.lookup w).getD 2 = m) {r : List PV} (hl : ¬ ((r.length + 1 : Nat) : Int) = m) (st : Store) : callJ ds g (n + 2) 131 [.pv (.tuple (.str w :: r))] st = .ok (.pv (.bool false)) st := by
  rw [callJ_at H.h131 rfl]
  unfold d__law_is_step b__law_is_step
  have e1 : (PyData.str w :: r).isEmpty = false := rfl
  simp only [jevw, e1, dgetF, hm, in_nine, hw, hl]
theorem ls_plain (H : HasIs ds) (n : Nat) {w : Str} (hw : w ∈ nineL) {m : Int} (hm : (manyL.lookup w).getD 2 = m) {r : List PV} (hl : ((r.length + 1 : Nat) : Int) = m) (hz : r.length ≤ 10) (h1 : ¬ w = "add") (h2 : ¬ w = "swap") (st : Store) :
    callJ ds g (n + 2) 131 [.pv (.tuple (.str w :: r))] st = .ok (.pv (.bool (r.all labP))) st := by
  rw [callJ_at H.h131 rfl]
  unfold d__law_is_step b__law_is_step
  have e1 : (PyData.str w :: r).isEmpty = false := rfl
  have A := fun a0 a1 a3 st => labs_eq (g := g) H n r hz a0 a1 a3 st
  simp only [jevw, e1, dgetF, hm, in_nine, hw, hl, h1, h2, sli_tp, cut_from1, A, none_left]
  cases r.all labP <;> simp
theorem ls_swap (H : HasIs ds) (n : Nat) (a b c : PV) (st : Store) (hd : labP a = true → labP b = true → labP c = true → dle 8 b = true) :
    callJ ds g (n + 2) 131 [.pv (.tuple [.str "swap", a, b, c])] st = .ok (.pv (.bool (labP a && (labP b && (labP c && !PyData.eqv b c))))) st := by
  rw [callJ_at H.h131 rfl]
  unfold d__law_is_step b__law_is_step
  have e1 : (PyData.str "swap" :: [a, b, c]).isEmpty = false := rfl
  have A := fun a0 a1 a3 st => labs_eq (g := g) H n [a, b, c] (by simp) a0 a1 a3 st
  have hw : ("swap" : Str) ∈ nineL := by decide
  have hm : (manyL.lookup ("swap" : Str)).getD 2 = 4 := rfl
  have h1 : ¬ ("swap" : Str) = "add" := by decide
  have hl : decide (((4 : Nat) : Int) = 4) = true := by decide
  simp only [jevw, e1, dgetF, hm, in_nine, hw, hl, h1, sli_tp, cut_from1, A, none_left, List.all_cons, List.all_nil, Bool.and_true]
  cases ha : labP a <;> cases hb : labP b <;> cases hc : labP c <;> simp
  have q : eqP b c = some (PyData.eqv b c) := by
    unfold eqP
    rw [if_pos (by rw [hd ha hb hc]; rfl)]
  simp only [jevw, q]
theorem ls_add (H : HasIs ds) (n : Nat) (a b c : PV) (st : Store) :
    callJ ds g (n + 2) 131 [.pv (.tuple [.str "add", a, b, c])] st = .ok (.pv (.bool (labP a && (labP b && plcP c)))) st := by
  rw [callJ_at H.h131 rfl]
  unfold d__law_is_step b__law_is_step
  have e1 : (PyData.str "add" :: [a, b, c]).isEmpty = false := rfl
  have A := fun a0 a1 a3 st => labs_eq (g := g) H n [a, b] (by simp) a0 a1 a3 st
  have hw : ("add" : Str) ∈ nineL := by decide
  have hm : (manyL.lookup ("add" : Str)).getD 2 = 4 := rfl
  have hl : decide (((4 : Nat) : Int) = 4) = true := by decide
  simp only [jevw, e1, dgetF, hm, in_nine, hw, hl, sli_tp, cut_1to3, A, none_left, List.all_cons, List.all_nil, Bool.and_true]
  cases ha : labP a <;> cases hb : labP b <;> simp
  cases c with
  | str z =>
    simp only [jevw, in_2]
    rfl
  | _ => simp only [jev]; rfl
theorem law_step_eq (H : HasIs ds) (n : Nat) (v : PV) (st : Store) : callJ ds g (n + 2) 131 [.pv v] st = .ok (.pv (.bool (stepP v))) st := by
  have nonstr : ∀ (x : PV) (r : List PV), isiV x "str" = false → callJ ds g (n + 2) 131 [.pv (.tuple (x :: r))] st = .ok (.pv (.bool false)) st := fun x r hx => by
    rw [callJ_at H.h131 rfl]
    unfold d__law_is_step b__law_is_step
    have e1 : (x :: r).isEmpty = false := rfl
    simp only [jevw, hx, e1]
  cases v with
  | tuple xs =>
    cases xs with
    | nil =>
      rw [callJ_at H.h131 rfl]
      unfold d__law_is_step b__law_is_step
      have e1 : ([] : List PV).isEmpty = true := rfl
      simp only [jevw, e1]
      rfl
    | cons x r =>
      cases x with
      | str w =>
        by_cases hw : w ∈ nineL
        · have two : ∀ {w : Str}, w ∈ nineL → (manyL.lookup w).getD 2 = 2 → ¬ w = "add" → ¬ w = "swap" → (∀ r : List PV, stepP (.tuple (.str w :: r)) = match r with | [k] => labP k | _ => false) → callJ ds g (n + 2) 131 [.pv (.tuple (.str w :: r))] st = .ok (.pv (.bool (stepP (.tuple (.str w :: r))))) st := by
            intro w hw hm h1 h2 hs
            rw [hs]
            rcases r with _ | ⟨k, _ | ⟨b, r⟩⟩
            · rw [ls_bad H n hw hm (by simp)]
            · rw [ls_plain H n hw hm (by simp) (by simp) h1 h2]
              simp
            · rw [ls_bad H n hw hm (by simp; omega)]
          have three : ∀ {w : Str}, w ∈ nineL → (manyL.lookup w).getD 2 = 3 → ¬ w = "add" → ¬ w = "swap" → (∀ r : List PV, stepP (.tuple (.str w :: r)) = match r with | [k, v] => labP k && labP v | _ => false) → callJ ds g (n + 2) 131 [.pv (.tuple (.str w :: r))] st = .ok (.pv (.bool (stepP (.tuple (.str w :: r))))) st := by
            intro w hw hm h1 h2 hs
            rw [hs]
            rcases r with _ | ⟨k, _ | ⟨b, _ | ⟨c, r⟩⟩⟩
            · rw [ls_bad H n hw hm (by simp)]
            · rw [ls_bad H n hw hm (by simp)]
            · rw [ls_plain H n hw hm (by simp) (by simp) h1 h2]
              simp
            · rw [ls_bad H n hw hm (by simp; omega)]
          have hw0 := hw
          simp only [nineL, List.mem_cons, List.not_mem_nil, or_false] at hw
          have un : ∀ w : Str, w ∈ (["first", "last", "drop", "purge", "strike"] : List Str) → ∀ r : List PV, stepP (.tuple (.str w :: r)) = match r with | [k] => labP k | _ => false := by
            intro w hw r
            have h1 : ¬ w = "set" ∧ ¬ w = "only" ∧ ¬ w = "add" ∧ ¬ w = "swap" := by
              simp only [List.mem_cons, List.not_mem_nil, or_false] at hw
              rcases hw with rfl | rfl | rfl | rfl | rfl <;> decide
            rcases r with _ | ⟨k, _ | ⟨b, _ | ⟨c, _ | ⟨d, r⟩⟩⟩⟩
            · rfl
            · simp only [stepP, hw, decide_true, Bool.true_and]
            · simp [stepP, h1]
            · simp [stepP, h1]
            · rfl
          have de : ∀ w : Str, w ∈ (["set", "only"] : List Str) → ∀ r : List PV, stepP (.tuple (.str w :: r)) = match r with | [k, v] => labP k && labP v | _ => false := by
            intro w hw r
            have h1 : ¬ w ∈ (["first", "last", "drop", "purge", "strike"] : List Str) ∧ ¬ w = "add" ∧ ¬ w = "swap" := by
              simp only [List.mem_cons, List.not_mem_nil, or_false] at hw
              rcases hw with rfl | rfl <;> decide
            rcases r with _ | ⟨k, _ | ⟨b, _ | ⟨c, _ | ⟨d, r⟩⟩⟩⟩
            · rfl
            · simp only [stepP, h1.1, decide_false, Bool.false_and]
            · simp only [stepP, hw, decide_true, Bool.true_and]
            · simp [stepP, h1.2]
            · rfl
          rcases hw with rfl | rfl | rfl | rfl | rfl | rfl | rfl | rfl | rfl
          · exact three hw0 rfl (by decide) (by decide) (de _ (by decide))
          · rcases r with _ | ⟨k, _ | ⟨b, _ | ⟨c, _ | ⟨d, r⟩⟩⟩⟩
            · rw [ls_bad (m := 4) H n hw0 rfl (by simp)]; rfl
            · rw [ls_bad (m := 4) H n hw0 rfl (by simp)]; rfl
            · rw [ls_bad (m := 4) H n hw0 rfl (by simp)]
              have h1 : ¬ ("add" : Str) ∈ (["set", "only"] : List Str) := by decide
              simp only [stepP, h1, decide_false, Bool.false_and]
            · rw [ls_add H n]
              have h1 : ¬ ("add" : Str) = "swap" := by decide
              simp [stepP, h1, Bool.and_assoc]
            · rw [ls_bad (m := 4) H n hw0 rfl (by simp; omega)]; rfl
          · exact three hw0 rfl (by decide) (by decide) (de _ (by decide))
          · rcases r with _ | ⟨k, _ | ⟨b, _ | ⟨c, _ | ⟨d, r⟩⟩⟩⟩
            · rw [ls_bad (m := 4) H n hw0 rfl (by simp)]; rfl
            · rw [ls_bad (m := 4) H n hw0 rfl (by simp)]
              have h1 : ¬ ("swap" : Str) ∈ (["first", "last", "drop", "purge", "strike"] : List Str) := by decide
              simp only [stepP, h1, decide_false, Bool.false_and]
            · rw [ls_bad (m := 4) H n hw0 rfl (by simp)]
              have h1 : ¬ ("swap" : Str) ∈ (["set", "only"] : List Str) := by decide
              simp only [stepP, h1, decide_false, Bool.false_and]
            · rw [ls_swap H n _ _ _ _ (fun _ h _ => lab_dle h)]
              have h1 : ¬ ("swap" : Str) = "add" := by decide
              simp [stepP, h1, Bool.and_assoc]
            · rw [ls_bad (m := 4) H n hw0 rfl (by simp; omega)]; rfl
          · exact two hw0 rfl (by decide) (by decide) (un _ (by decide))
          · exact two hw0 rfl (by decide) (by decide) (un _ (by decide))
          · exact two hw0 rfl (by decide) (by decide) (un _ (by decide))
          · exact two hw0 rfl (by decide) (by decide) (un _ (by decide))
          · exact two hw0 rfl (by decide) (by decide) (un _ (by decide))
        · rw [callJ_at H.h131 rfl]
          unfold d__law_is_step b__law_is_step
          have e1 : (PyData.str w :: r).isEmpty = false := rfl
          have hw' : ¬ w ∈ (["set", "add", "only", "swap", "first", "last", "drop", "purge", "strike"] : List Str) := hw
          simp only [jevw, e1, dgetF, in_nine, hw']
          simp only [nineL, List.mem_cons, List.not_mem_nil, or_false, not_or] at hw
          obtain ⟨a1, a2, a3, a4, a5, a6, a7, a8, a9⟩ := hw
          rcases r with _ | ⟨a, _ | ⟨b, _ | ⟨c, _ | ⟨d, r⟩⟩⟩⟩ <;> simp [stepP, a1, a2, a3, a4, a5, a6, a7, a8, a9]
      | _ => rw [nonstr _ _ rfl]; rcases r with _ | ⟨a, _ | ⟨b, _ | ⟨c, r⟩⟩⟩ <;> rfl
  | _ =>
    rw [callJ_at H.h131 rfl]
    unfold d__law_is_step b__law_is_step
    simp only [jev]
    rfl
end
end P
end

section
set_option maxRecDepth 100000
/-! V7: _law_values_named, _law_is_script. -/
namespace P
open PySem PySem.Spec J
open L2 (atI ixN atI_nat)
/-- a list that may change, at the c-th cell behind a store -/
def At (st st' : Store) (c : Nat) (xs : List PV) : Prop := st.length ≤ c ∧ st'[c]? = some (.lst xs) ∧ st'.take st.length = st
theorem At.set {st st' : Store} {c : Nat} {xs ys : List PV} (h : At st st' c xs) : At st (st'.set c (.lst ys)) c ys := by
  obtain ⟨h1, h2, h3⟩ := h
  have hc : c < st'.length := (List.getElem?_eq_some_iff.mp h2).1
  refine ⟨h1, by rw [List.getElem?_set_self hc], ?_⟩
  rw [List.take_set_of_le h1]
  exact h3
theorem At.lock {st st' : Store} {c : Nat} {xs : List PV} (h : At st st' c xs) (d : Cell) : (st'.set c d).take st.length = st ∧ st.length ≤ (st'.set c d).length := by
  obtain ⟨h1, h2, h3⟩ := h
  have hc : c < st'.length := (List.getElem?_eq_some_iff.mp h2).1
  constructor
  · rw [List.take_set_of_le h1]; exact h3
  · rw [List.length_set]; omega
theorem At.push {st st' : Store} {xs : List PV} (h : st'.take st.length = st) (hl : st.length ≤ st'.length) : At st (st' ++ [.lst xs]) st'.length xs := by
  refine ⟨hl, by simp, ?_⟩
  rw [List.take_append_of_le_length hl]; exact h
theorem At.new (st : Store) (xs : List PV) : At st (st ++ [.lst xs]) st.length xs := At.push List.take_length (Nat.le_refl _)
section
variable {ds : List (Option DefJ)} {g : Glb}
def nmS (key : Str) (s : List Str) : List Str := if keyS s = key then valsS s else []
theorem nm_yes {key : Str} {s : List Str} (h : keyS s = key) : nmS key s = valsS s := if_pos h
theorem nm_no {key : Str} {s : List Str} (h : ¬ keyS s = key) : nmS key s = [] := if_neg h
theorem named_flat (ss : List (List Str)) (key : Str) : namedS ss key = ss.flatMap (nmS key) := rfl
theorem in_3v (w a b c : Str) : inP (.str w) (.tuple [.str a, .str b, .str c]) = some (decide (w ∈ [a, b, c])) := in_strs w [a, b, c]
theorem vnBody (n : Nat) (key : Str) (st0 : Store) (s : List Str) (ho : okS s = true) (a0 a3 : Option SV) (c : Nat) (st : Store) (xs : List Str) (hx : xs.length ≤ 100) (h : At st0 st c (xs.map .str)) :
    ∃ c' st', At st0 st' c' ((xs ++ nmS key s).map .str) ∧ forBd (.nm 3) (evSs (callJ ds g n) g l1__law_values_named) (stepV s) [a0, some (.pv (.str key)), some (.ref c), a3] st = .next [a0, some (.pv (.str key)), some (.ref c'), some (.pv (stepV s))] st' := by
  unfold l1__law_values_named
  show ∃ c' st', _ ∧ evSs _ _ _ (([a0, some (.pv (.str key)), some (.ref c), a3] : Envr).set 3 (some (.pv (stepV s)))) _ = _
  have hg := h.2.1
  have lt : (xs.map PyData.str).length < 10000000 := by rw [List.length_map]; omega
  rcases s with _ | ⟨w, _ | ⟨k, _ | ⟨v, _ | ⟨x, _ | ⟨y, r⟩⟩⟩⟩⟩
  · cases ho
  · cases ho
  · have hn : nmS key [w, k] = [] := by unfold nmS valsS; simp
    rw [hn, List.append_nil]
    refine ⟨c, st, h, ?_⟩
    have hw : ¬ w ∈ (["set", "add", "only"] : List Str) ∧ ¬ w = "swap" := by
      rcases ok2 ho with rfl | rfl | rfl | rfl | rfl <;> decide
    by_cases hk : k = key
    · simp only [jevw, stepV, in_3v, hw, hk]
    · simp only [jevw, stepV, in_3v, hw, hk]
  · have hw : w ∈ (["set", "add", "only"] : List Str) ∧ ¬ w = "swap" := by
      rcases ok3 ho with rfl | rfl <;> decide
    by_cases hk : k = key
    · have hn : nmS key [w, k, v] = [v] := nm_yes (show keyS [w, k, v] = key from hk)
      rw [hn]
      refine ⟨c, st.set c (.lst ((xs ++ [v]).map .str)), h.set, ?_⟩
      simp only [jevw, stepV, in_3v, hw, hk, appS, hg]
      rw [if_pos lt, List.map_append]
      rfl
    · have hn : nmS key [w, k, v] = [] := nm_no (show ¬ keyS [w, k, v] = key from hk)
      rw [hn, List.append_nil]
      refine ⟨c, st, h, ?_⟩
      simp only [jevw, stepV, in_3v, hw, hk]
  · by_cases hk : k = key
    · rcases ok4 ho with rfl | rfl
      · have hn : nmS key ["add", k, v, x] = [v] := by
          rw [nm_yes (show keyS ["add", k, v, x] = key from hk)]
          show (if ("add" : Str) = "swap" then [v, x] else [v]) = [v]
          rw [if_neg (by decide)]
        rw [hn]
        have hw : ("add" : Str) ∈ (["set", "add", "only"] : List Str) := by decide
        refine ⟨c, st.set c (.lst ((xs ++ [v]).map .str)), h.set, ?_⟩
        simp only [jevw, stepV, in_3v, hw, hk, appS, hg]
        rw [if_pos lt, List.map_append]
        rfl
      · have hn : nmS key ["swap", k, v, x] = [v, x] := by
          rw [nm_yes (show keyS ["swap", k, v, x] = key from hk)]
          show (if ("swap" : Str) = "swap" then [v, x] else [v]) = [v, x]
          rw [if_pos rfl]
        rw [hn]
        have hw : ¬ ("swap" : Str) ∈ (["set", "add", "only"] : List Str) := by decide
        have lk := h.lock (.frz (.list (xs.map .str)))
        refine ⟨_, _, At.push (xs := (xs ++ [v, x]).map .str) lk.1 lk.2, ?_⟩
        simp only [jevw, stepV, in_3v, hw, hk, mcatF, frzF, hg, List.length_map]
        rw [if_pos (show xs.length ≤ 9999998 by omega), List.map_append]
        rfl
    · have hn : nmS key [w, k, v, x] = [] := nm_no (show ¬ keyS [w, k, v, x] = key from hk)
      rw [hn, List.append_nil]
      refine ⟨c, st, h, ?_⟩
      simp only [jevw, stepV, in_3v, hk]
  · cases ho
theorem nm_le (key : Str) (s : List Str) : (nmS key s).length ≤ 2 := by
  unfold nmS
  split
  · unfold valsS
    split
    · simp
    · split <;> simp
    · simp
  · simp
theorem vnLoop (n : Nat) (key : Str) (st0 : Store) (a0 : Option SV) : ∀ (ss : List (List Str)) (xs : List Str) (a3 : Option SV) (c : Nat) (st : Store), ss.all okS = true → xs.length + ss.length * 2 ≤ 100 → At st0 st c (xs.map .str) →
    ∃ c' b3 st', At st0 st' c' ((xs ++ ss.flatMap (nmS key)).map .str) ∧ loopJ (forBd (.nm 3) (evSs (callJ ds g n) g l1__law_values_named)) (ss.map stepV) [a0, some (.pv (.str key)), some (.ref c), a3] st = .next [a0, some (.pv (.str key)), some (.ref c'), b3] st'
  | [], xs, a3, c, st, _, _, h => ⟨c, a3, st, by simpa using h, rfl⟩
  | s :: ss, xs, a3, c, st, hs, hl, h => by
    have h' : okS s = true ∧ ss.all okS = true := by simpa using hs
    rw [List.length_cons] at hl
    have := nm_le key s
    obtain ⟨c1, st1, h1, e1⟩ := vnBody (ds := ds) (g := g) n key st0 s h'.1 a0 a3 c st xs (by omega) h
    obtain ⟨c2, b3, st2, h2, e2⟩ := vnLoop n key st0 a0 ss (xs ++ nmS key s) (some (.pv (stepV s))) c1 st1 h'.2 (by rw [List.length_append]; omega) h1
    refine ⟨c2, b3, st2, ?_, ?_⟩
    · rw [List.flatMap_cons, ← List.append_assoc]; exact h2
    · rw [List.map_cons, loop_next e1]; exact e2
theorem flat_len (key : Str) : ∀ ss : List (List Str), (ss.flatMap (nmS key)).length ≤ ss.length * 2
  | [] => by simp
  | s :: ss => by
    have h1 := nm_le key s
    have h2 := flat_len key ss
    rw [List.flatMap_cons, List.length_append, List.length_cons]
    omega
theorem law_named_eq (h130 : ds[130]? = some (some d__law_values_named)) (n : Nat) (ss : List (List Str)) (key : Str) (hs : ss.all okS = true) (hl : ss.length ≤ 40) (st : Store) :
    callJ ds g (n + 1) 130 [.pv (.tuple (ss.map stepV)), .pv (.str key)] st = .ok (.pv (.list ((sortS (namedS ss key)).map .str))) st := by
  rw [callJ_at h130 rfl]
  unfold d__law_values_named b__law_values_named
  obtain ⟨c, b3, st', h, e⟩ := vnLoop (ds := ds) (g := g) n key st (some (.pv (.tuple (ss.map stepV)))) ss [] none st.length (st ++ [.lst []]) hs (by simp; omega) (At.new st [])
  rw [List.nil_append] at h
  have e : loopJ (forBd (.nm 3) (evSs (callJ ds g n) g l1__law_values_named)) (ss.map stepV) [some (.pv (.tuple (ss.map stepV))), some (.pv (.str key)), some (.ref st.length), none] (st ++ [.lst []]) = .next [some (.pv (.tuple (ss.map stepV))), some (.pv (.str key)), some (.ref c), b3] st' := e
  have hg := h.2.1
  have hk := (h.lock (.frz (.list ((ss.flatMap (nmS key)).map .str)))).1
  have S := srt_strs (ss := ss.flatMap (nmS key)) (by have := flat_len key ss; omega)
  simp only [jevw, Nat.zero_le, forS, itemsV, opt, e, srtF, frzF, hg, S, hk]
  rfl
/-! ### scripts -/
theorem keysS_in {ss : List (List Str)} {k : Str} : k ∈ keysS ss ↔ ∃ s ∈ ss, keyS s = k := by
  have h1 : k ∈ keysS ss ↔ k ∈ onceL (ss.map keyS) [] := (List.mergeSort_perm _ _).mem_iff
  rw [h1, onceL_mem]
  simp only [List.mem_map, List.not_mem_nil, or_false]
theorem few_all (ss : List (List Str)) : (ss.all fun s => decide ((sortS (namedS ss (keyS s))).length ≤ 4)) = (keysS ss).all fun k => decide ((sortS (namedS ss k)).length ≤ 4) := by
  rw [Bool.eq_iff_iff, List.all_eq_true, List.all_eq_true]
  constructor
  · intro h k hk
    obtain ⟨s, hs, rfl⟩ := keysS_in.mp hk
    exact h s hs
  · intro h s hs
    exact h _ (keysS_in.mpr ⟨s, hs, rfl⟩)
theorem law_script_eq (H : HasIs ds) (n : Nat) (v : PV) (st : Store) : callJ ds g (n + 3) 132 [.pv v] st = .ok (.pv (.bool (scrP v))) st := by
  rw [callJ_at H.h132 rfl]
  unfold d__law_is_script b__law_is_script
  have L := fun v st => law_step_eq (g := g) H n v st
  cases v with
  | tuple xs =>
    by_cases h : (6 : Int) < xs.length
    · have h' : ¬ xs.length ≤ 6 := by omega
      simp only [jevw, h]
      simp [scrP, h']
    · have h' : xs.length ≤ 6 := by omega
      have C : ∀ a1 st, compF (slotF 1) (.nm 1) (valF (slotF 0)) (tst (notF (callF (callJ ds g (n + 2) 131) (consF (slotF 1) nilF)))) [1] [some (.pv (.tuple xs)), a1] st = .ok (.pv (.list ((xs.filter fun x => !stepP x).map id))) st := fun a1 st => by
        rw [compF_eq (fun x => if (!stepP x) = true then some (id x) else none) (items := xs) (by simp only [jevw, itemsV, opt]) (fun x _ => ?_) (by unfold line; omega)]
        · rw [filterMap_if]
        · rw [compB_nm]
          simp only [jevw, L]
          cases stepP x <;> simp
      cases hs : xs.all stepP with
      | false =>
        simp only [jevw, h, C, none_left, hs]
        simp [scrP, hs]
      | true =>
        obtain ⟨e1, e2⟩ := steps_V hs
        generalize hss : xs.map unS = ss at e1 e2
        have hz : ss.length ≤ 6 := by rw [← hss, List.length_map]; exact h'
        have NB := fun key st => law_named_eq (g := g) H.h130 (n + 1) ss key e2 (by omega) st
        rw [← e1] at NB
        have C2 : ∀ a1 st, compF (slotF 1) (.nm 1) (valF (slotF 0)) (tst (cmpF .Gt (biF .len (callF (callJ ds g (n + 2) 130) (consF (slotF 0) (consF (idxF (slotF 1) (conF (.int 1))) nilF)))) (conF (.int 4)))) [1] [some (.pv (.tuple xs)), a1] st
            = .ok (.pv (.list ((ss.filter fun s => !decide ((sortS (namedS ss (keyS s))).length ≤ 4)).map stepV))) st := fun a1 st => by
          rw [compF_typed ss stepV (fun s => if (!decide ((sortS (namedS ss (keyS s))).length ≤ 4)) = true then some (stepV s) else none) (by rw [e1]; simp only [jevw, itemsV, opt]) (fun s hsm => ?_) (by unfold line; omega)]
          · rw [filterMap_if]
          · obtain ⟨w, k, r, rfl⟩ := ok_key (List.all_eq_true.mp e2 s hsm)
            have ek : keyS (w :: k :: r) = k := rfl
            rw [compB_nm]
            simp only [jevw, stepV, NB, List.length_map, ek]
            by_cases q : (sortS (namedS ss k)).length ≤ 4
            · have q' : ¬ (4 : Int) < ((sortS (namedS ss k)).length : Int) := by omega
              simp only [q, q', decide_true, decide_false, Bool.not_true, Bool.false_eq_true, if_false]
            · have q' : (4 : Int) < ((sortS (namedS ss k)).length : Int) := by omega
              simp only [q, q', decide_true, decide_false, Bool.not_false, if_true]
        simp only [jevw, h, C, none_left, hs, C2, few_all]
        simp only [scrP, hs, hss, h', decide_true, Bool.true_and]
  | _ => simp only [jev]; rfl
end
end P
end

section
set_option maxRecDepth 100000
/-! W1: any text cut up. -/
namespace P
open PySem PySem.Spec J
open L2 (atI ixN atI_nat cutS)
theorem joinL_mem' {S : List Nat} {c : Nat} : ∀ {ys : List (List Nat)} {y : List Nat}, y ∈ ys → c ∈ y → c ∈ TL.joinL S ys
  | [p], y, h, hc => by
    have : y = p := by simpa using h
    subst this
    exact hc
  | p :: q :: r, y, h, hc => by
    simp only [TL.joinL, List.mem_append]
    rcases List.mem_cons.mp h with e | h
    · subst e; exact .inl hc
    · exact .inr (.inr (joinL_mem' h hc))
theorem joinL_len {S : List Nat} : ∀ {ys : List (List Nat)}, ys ≠ [] → (TL.joinL S ys).length + S.length = (ys.map List.length).sum + ys.length * S.length
  | [], h => absurd rfl h
  | [p], _ => by simp [TL.joinL]
  | p :: q :: r, _ => by
    have ih := joinL_len (S := S) (ys := q :: r) (by simp)
    simp only [TL.joinL, List.length_append, List.map_cons, List.sum_cons, List.length_cons, Nat.succ_mul] at ih ⊢
    omega
theorem piece_mem {sep y : Str} {ys : List Str} (h : y ∈ ys) {c : Nat} (hc : c ∈ y.cps.toList) : c ∈ (Txt.join sep ys).cps.toList := by
  rw [cps_join]
  exact joinL_mem' (List.mem_map.mpr ⟨y, h, rfl⟩) hc
theorem join_len_eq {sep : Str} {ys : List Str} (h : ys ≠ []) : (Txt.join sep ys).length + sep.length = (ys.map (·.length)).sum + ys.length * sep.length := by
  have e := joinL_len (S := sep.cps.toList) (ys := ys.map fun y => y.cps.toList) (by simpa using h)
  rw [← cps_join, List.map_map, List.length_map] at e
  exact e
theorem split_back (x sep : Str) : Txt.join sep (Txt.split x sep) = x := by
  rw [TL.join_eq]
  exact StrLaws.join_split x sep
theorem split_ne (x : Str) (c : Nat) : Txt.split x ⟨#[c]⟩ ≠ [] := by
  by_cases h : x.length = 0
  · unfold Txt.split
    rw [if_pos (by rw [Bool.or_eq_true]; exact .inl (decide_eq_true (by show x.length < 1; omega)))]
    simp
  · intro e
    have q := split_back x ⟨#[c]⟩
    rw [e] at q
    apply h
    rw [← q, TL.join_eq]
    rfl
/-- a text that fits, of at most so many signs -/
def Tx (n : Nat) (z : Str) : Prop := fitS z = true ∧ z.length ≤ n
theorem Tx.mono {n m : Nat} {z : Str} (h : Tx n z) (hm : n ≤ m) : Tx m z := ⟨h.1, Nat.le_trans h.2 hm⟩
theorem fit_sub {x z : Str} (hz : fitS z = true) (h : ∀ c ∈ x.cps.toList, c ∈ z.cps.toList) (hl : x.length ≤ z.length) : fitS x = true := by
  rw [fit_cps] at *
  exact ⟨fun c hc => hz.1 c (h c hc), Nat.le_trans hl hz.2⟩
theorem len_le_sum {y : Str} : ∀ {ys : List Str}, y ∈ ys → y.length ≤ (ys.map (·.length)).sum
  | x :: xs, h => by
    simp only [List.map_cons, List.sum_cons]
    rcases List.mem_cons.mp h with e | h
    · subst e; omega
    · have := len_le_sum h; omega
/-- the pieces of a text -/
theorem pieces {z : Str} (hz : fitS z = true) (c : Nat) : (∀ y ∈ Txt.split z ⟨#[c]⟩, fitS y = true ∧ y.length ≤ z.length) ∧ ((Txt.split z ⟨#[c]⟩).map (·.length)).sum + (Txt.split z ⟨#[c]⟩).length = z.length + 1 := by
  have e := join_len_eq (sep := ⟨#[c]⟩) (split_ne z c)
  rw [split_back] at e
  have e1 : (⟨#[c]⟩ : Str).length = 1 := rfl
  rw [e1, Nat.mul_one] at e
  refine ⟨fun y hy => ?_, by omega⟩
  have hpos : 1 ≤ (Txt.split z ⟨#[c]⟩).length := List.length_pos_iff.mpr (split_ne z c)
  have hl : y.length ≤ z.length := by
    have := len_le_sum hy
    omega
  refine ⟨fit_sub hz (fun d hd => ?_) hl, hl⟩
  have := piece_mem (sep := ⟨#[c]⟩) hy hd
  rw [split_back] at this
  exact this
theorem split_any {z : Str} {n : Nat} (hz : Tx n z) (hn : n ≤ 1000000) (c : Nat) : splitV z (.str ⟨#[c]⟩) = some (.list ((Txt.split z ⟨#[c]⟩).map .str)) := by
  obtain ⟨p1, p2⟩ := pieces hz.1 c
  have := hz.2
  exact split_strs rfl (by rfl) (by omega) (List.all_eq_true.mpr fun y hy => (p1 y hy).1) (by unfold line; omega)
theorem cut_tx {z : Str} {n : Nat} (h : Tx n z) (lo hi : Option Int) : Tx n (cutS z lo hi) := by
  obtain ⟨h1, h2⟩ := h
  have hl := L2.cutS_length z lo hi
  refine ⟨?_, Nat.le_trans hl h2⟩
  unfold fitS at h1 ⊢
  simp only [Bool.and_eq_true, decide_eq_true_eq] at h1 ⊢
  exact ⟨strOk_cut h1.1 lo hi, Nat.le_trans hl h1.2⟩
/-! ### rows -/
def rowsT (z : Str) : List Str := if z = ("" : Str) then [] else Txt.split z nlS
theorem rowsT_tx {z : Str} {n : Nat} (h : Tx n z) : (∀ r ∈ rowsT z, Tx n r) ∧ (rowsT z).length ≤ n + 1 := by
  unfold rowsT
  split
  · exact ⟨fun r hr => by simp at hr, by simp⟩
  · rw [nl_is]
    obtain ⟨p1, p2⟩ := pieces h.1 10
    have := h.2
    exact ⟨fun y hy => ⟨(p1 y hy).1, Nat.le_trans (p1 y hy).2 h.2⟩, by omega⟩
structure HasRd (ds : List (Option DefJ)) (g : Glb) : Prop where
  h0 : ds[0]? = some (some d_is_label)
  h3 : ds[3]? = some (some d_form_of)
  h4 : ds[4]? = some (some d_is_step)
  h5 : ds[5]? = some (some d_named_by)
  h6 : ds[6]? = some (some d_keys_of)
  h7 : ds[7]? = some (some d_is_script)
  g1 : g.glob[1]? = some (.int 6)
  g2 : g.glob[2]? = some (.int 4)
  g3 : g.glob[3]? = some placesV
  d0 : g.dict[0]? = some formsD
structure HasRf (ds : List (Option DefJ)) (g : Glb) : Prop where
  h0 : ds[0]? = some (some d_is_label)
  h1 : ds[1]? = some (some d_is_line)
  h2 : ds[2]? = some (some d_is_file)
  g0 : g.glob[0]? = some (.int 40)
structure HasTy (ds : List (Option DefJ)) : Prop where
  h72 : ds[72]? = some (some d_rows_in)
  h73 : ds[73]? = some (some d_read_script)
  h76 : ds[76]? = some (some d_line_in)
  h77 : ds[77]? = some (some d_read_file)
def wordsT (r : Str) : List Str := Txt.split r spS
section
variable {ds : List (Option DefJ)} {g : Glb}
theorem rows_any (T : HasTy ds) (n : Nat) {z : Str} {k : Nat} (h : Tx k z) (hk : k ≤ 1000000) (st : Store) : callJ ds g (n + 1) 72 [.pv (.str z)] st = .ok (.pv (.list ((rowsT z).map .str))) st := by
  rw [callJ_at T.h72 rfl]
  unfold d_rows_in b_rows_in rowsT
  by_cases q : z = ("" : Str)
  · simp only [jevw, q, List.map_nil]
  · have h := split_any h hk 10
    rw [← nl_is] at h
    have h : splitV z (.str ("\n" : Str)) = some (.list ((Txt.split z nlS).map .str)) := h
    simp only [jevw, q, txtF, h]
theorem rows_odd (T : HasTy ds) (n : Nat) {v : PV} (h : isiV v "str" = false) (st : Store) : callJ ds g (n + 1) 72 [.pv v] st = .exc ⟨7, some ("row", .int 0)⟩ st := by
  rw [callJ_at T.h72 rfl]
  unfold d_rows_in b_rows_in
  simp only [jevw, h, raisxS]
/-! ### scripts -/
def scS : List (List Str) → List Str → Bool × List (List Str)
  | acc, [] => (true, acc)
  | acc, r :: rs => if okS (wordsT r) = true then scS (acc ++ [wordsT r]) rs else (false, acc)
theorem words_any {r : Str} {k : Nat} (h : Tx k r) (hk : k ≤ 1000000) : splitV r (.str (" " : Str)) = some (.list ((wordsT r).map .str)) := by
  have := split_any h hk 32
  rw [← sp_is] at this
  exact this
theorem readAny (H : HasRd ds g) (n : Nat) (a0 : Option SV) (st : Store) (k : Nat) (hk : k ≤ 1000000) : ∀ (rs : List Str) (acc : List (List Str)) (a2 a3 a4 : Option SV), (∀ r ∈ rs, Tx k r) → acc.length + rs.length ≤ 1000001 →
    ∃ b2 b3 b4, loopJ (forBd (.tp [2, 3]) (evSs (callJ ds g (n + 2)) g l1_read_script)) ((rs.zipIdx acc.length).map fun p => .tuple [.int (p.2 : Nat), .str p.1]) [a0, some (.pv (.tuple (acc.map stepV))), a2, a3, a4] st =
      (fun η => if (scS acc rs).1 = true then .next η st else .exc ⟨7, some ("row", .int ((scS acc rs).2.length + 1))⟩ η st) [a0, some (.pv (.tuple ((scS acc rs).2.map stepV))), b2, b3, b4]
  | [], acc, a2, a3, a4, _, _ => ⟨a2, a3, a4, by simp [loop_nil, scS]⟩
  | r :: rs, acc, a2, a3, a4, h, hl => by
    rw [List.length_cons] at hl
    have sp := words_any (h r List.mem_cons_self) hk
    have S : ∀ st, callJ ds g (n + 2) 4 [.pv (.tuple ((wordsT r).map .str))] st = .ok (.pv (.bool (okS (wordsT r)))) st := fun st => by
      have := is_step_eq (g := g) H.h0 H.h3 H.h4 H.g3 H.d0 n (stepV (wordsT r)) st
      rw [stepP_V] at this
      exact this
    have A : addV (.tuple (acc.map stepV)) (.tuple [.tuple ((wordsT r).map .str)]) = some (.tuple ((acc ++ [wordsT r]).map stepV)) := by
      rw [add_tups (by simp only [List.length_map, List.length_singleton]; unfold line; omega), List.map_append]
      rfl
    have A2 : addV (.int ((acc.length : Nat) : Int)) (.int 1) = some (.int ((acc.length : Int) + 1)) := rfl
    by_cases ho : okS (wordsT r) = true
    · obtain ⟨b2, b3, b4, e⟩ := readAny H n a0 st k hk rs (acc ++ [wordsT r]) (some (.pv (.int (acc.length : Nat)))) (some (.pv (.str r))) (some (.pv (stepV (wordsT r)))) (fun x hx => h x (List.mem_cons_of_mem _ hx)) (by rw [List.length_append, List.length_singleton]; omega)
      refine ⟨b2, b3, b4, ?_⟩
      have hb : forBd (.tp [2, 3]) (evSs (callJ ds g (n + 2)) g l1_read_script) (.tuple [.int (acc.length : Nat), .str r]) [a0, some (.pv (.tuple (acc.map stepV))), a2, a3, a4] st = .next [a0, some (.pv (.tuple ((acc ++ [wordsT r]).map stepV))), some (.pv (.int (acc.length : Nat))), some (.pv (.str r)), some (.pv (stepV (wordsT r)))] st := by
        unfold l1_read_script
        show evSs _ _ _ ((([a0, some (.pv (.tuple (acc.map stepV))), a2, a3, a4] : Envr).set 2 (some (.pv (.int (acc.length : Nat))))).set 3 (some (.pv (.str r)))) st = _
        simp only [jevw, txtF, sp, S, A, ho]
        rfl
      have e2 : scS acc (r :: rs) = scS (acc ++ [wordsT r]) rs := by
        show (if okS (wordsT r) = true then _ else _) = _
        rw [if_pos ho]
      rw [List.zipIdx_cons, List.map_cons, loop_next hb, e2]
      rw [List.length_append, List.length_singleton] at e
      exact e
    · have ho' : okS (wordsT r) = false := by simpa using ho
      have e2 : scS acc (r :: rs) = (false, acc) := by
        show (if okS (wordsT r) = true then _ else _) = _
        rw [if_neg ho]
      refine ⟨some (.pv (.int (acc.length : Nat))), some (.pv (.str r)), some (.pv (stepV (wordsT r))), ?_⟩
      have hb : forBd (.tp [2, 3]) (evSs (callJ ds g (n + 2)) g l1_read_script) (.tuple [.int (acc.length : Nat), .str r]) [a0, some (.pv (.tuple (acc.map stepV))), a2, a3, a4] st = .exc ⟨7, some ("row", .int ((acc.length : Int) + 1))⟩ [a0, some (.pv (.tuple (acc.map stepV))), some (.pv (.int (acc.length : Nat))), some (.pv (.str r)), some (.pv (stepV (wordsT r)))] st := by
        unfold l1_read_script
        show evSs _ _ _ ((([a0, some (.pv (.tuple (acc.map stepV))), a2, a3, a4] : Envr).set 2 (some (.pv (.int (acc.length : Nat))))).set 3 (some (.pv (.str r)))) st = _
        simp only [jevw, txtF, sp, S, A2, ho', raisxS]
        rfl
      rw [List.zipIdx_cons, List.map_cons, e2]
      unfold loopJ
      rw [hb]
      rfl
/-- what a text of a script is read as -/
def rdS (z : Str) : Int ⊕ List (List Str) := match scS [] (rowsT z) with
  | (true, ss) => if scrS ss = true then .inr ss else .inl ((ss.length : Int) + 1)
  | (false, ss) => .inl ((ss.length : Int) + 1)
def rdR : Int ⊕ List (List Str) → Store → Res SV
  | .inl n, st => .exc ⟨7, some ("row", .int n)⟩ st
  | .inr ss, st => .ok (.pv (.tuple (ss.map stepV))) st
theorem read_script_any (H : HasRd ds g) (T : HasTy ds) (n : Nat) {z : Str} {k : Nat} (h : Tx k z) (hk : k ≤ 1000000) (st : Store) : callJ ds g (n + 4) 73 [.pv (.str z)] st = rdR (rdS z) st := by
  rw [callJ_at T.h73 rfl]
  unfold d_read_script b_read_script
  obtain ⟨h1, h2⟩ := rowsT_tx h
  have R := fun st => rows_any (g := g) T (n + 2) h hk st
  have I : ∀ ss st, callJ ds g (n + 3) 7 [.pv (.tuple (ss.map stepV))] st = .ok (.pv (.bool (scrS ss))) st := fun ss st => by
    rw [is_script_eq (g := g) H.h0 H.h3 H.h4 H.h5 H.h6 H.h7 H.g1 H.g2 H.g3 H.d0 n _ st, scrP_V]
  obtain ⟨b2, b3, b4, e⟩ := readAny (g := g) H (n + 1) (some (.pv (.str z))) st k hk (rowsT z) [] none none none h1 (by simp; omega)
  have e : loopJ (forBd (.tp [2, 3]) (evSs (callJ ds g (n + 3)) g l1_read_script)) (enumL (List.map PyData.str (rowsT z))) [some (.pv (.str z)), some (.pv (.tuple [])), none, none, none] st =
      (fun η => if (scS [] (rowsT z)).1 = true then .next η st else .exc ⟨7, some ("row", .int ((scS [] (rowsT z)).2.length + 1))⟩ η st) [some (.pv (.str z)), some (.pv (.tuple ((scS [] (rowsT z)).2.map stepV))), b2, b3, b4] := by
    rw [enumL_rows]
    exact e
  unfold rdS
  generalize hq : scS [] (rowsT z) = q at e
  obtain ⟨ok, ss⟩ := q
  cases ok with
  | false =>
    simp only [Bool.false_eq_true, if_false] at e
    simp only [jevw, R, forS, e]
    rfl
  | true =>
    simp only [if_true] at e
    have A2 : ∀ i : Int, addV (.int i) (.int 1) = some (.int (i + 1)) := fun i => rfl
    by_cases hs : scrS ss = true
    · simp only [jevw, R, forS, e, I, hs]
      simp [rdR, hs]
    · have hs' : scrS ss = false := by simpa using hs
      simp only [jevw, R, forS, e, I, hs', raisxS, A2, biV, List.length_map]
      simp [rdR, hs']
end
end P
end

section
set_option maxRecDepth 100000
/-! W2: any text read as a file. -/
namespace P
open PySem PySem.Spec J
open L2 (atI ixN atI_nat cutS)
def hashB (r : Str) : Bool := decide (cutS r none (some 1) = ("#" : Str))
def bareT (r : Str) : Str := if hashB r = true then cutS r (some 1) none else r
def lineW (ws : List Str) (on : Bool) : Option Ln := match ws with
  | [a, b] => if (lab a && lab b) = true then some ⟨a, b, on⟩ else none
  | _ => none
def lineT (r : Str) : Option Ln := lineW (Txt.split (bareT r) eqS) (!hashB r)
def lnO : Option Ln → PV
  | some l => lnV l
  | none => .none
theorem lineW_ok {ws : List Str} {on : Bool} {l : Ln} (h : lineW ws on = some l) : okL l = true := by
  unfold lineW at h
  split at h
  · split at h
    · rename_i q
      cases h
      exact q
    · cases h
  · cases h
theorem bare_tx {r : Str} {k : Nat} (h : Tx k r) : Tx k (bareT r) := by
  unfold bareT
  split
  · exact cut_tx h _ _
  · exact h
theorem eq_any {r : Str} {k : Nat} (h : Tx k r) (hk : k ≤ 1000000) : splitV (bareT r) (.str ("=" : Str)) = some (.list ((Txt.split (bareT r) eqS).map .str)) := by
  have := split_any (bare_tx h) hk 61
  rw [← eq_is] at this
  exact this
section
variable {ds : List (Option DefJ)} {g : Glb}
theorem len4 (n : Nat) : ¬ (((n + 1 + 1 + 1 : Nat) : Int) = 2) := by omega
theorem line_in_any (h0 : ds[0]? = some (some d_is_label)) (T : HasTy ds) (n : Nat) {r : Str} {k : Nat} (h : Tx k r) (hk : k ≤ 1000000) (st : Store) : callJ ds g (n + 2) 76 [.pv (.str r)] st = .ok (.pv (lnO (lineT r))) st := by
  rw [callJ_at T.h76 rfl]
  unfold d_line_in b_line_in
  have L := fun v st => is_label_eq (g := g) h0 n v st
  have ll : ∀ a : Str, labP (.str a) = lab a := fun a => rfl
  have sp := eq_any h hk
  unfold lineT
  generalize hws : Txt.split (bareT r) eqS = ws at sp
  by_cases f1 : L2.cutS r none (some 1) = ("#" : Str)
  · have hb : hashB r = true := decide_eq_true f1
    have e : bareT r = L2.cutS r (some 1) none := if_pos hb
    rw [e] at sp
    rw [hb]
    match ws, sp with
    | [], sp => simp only [jevw, sli_str, f1, txtF, sp, List.map_nil, List.length_nil]; rfl
    | [a], sp => simp only [jevw, sli_str, f1, txtF, sp, List.map_cons, List.map_nil, List.length_cons, List.length_nil]; rfl
    | [a, c], sp =>
      simp only [jevw, sli_str, f1, txtF, sp, List.map_cons, List.map_nil, List.length_cons, List.length_nil, L, ll]
      cases h1 : lab a <;> cases h2 : lab c <;> simp [lineW, h1, h2, lnO, lnV]
    | a :: c :: d :: rs, sp =>
      simp only [jevw, sli_str, f1, txtF, sp, List.map_cons, List.length_cons, len4]
      simp [lineW, lnO]
  · have hb : hashB r = false := decide_eq_false f1
    have e : bareT r = r := if_neg (by rw [hb]; simp)
    rw [e] at sp
    rw [hb]
    match ws, sp with
    | [], sp => simp only [jevw, sli_str, f1, txtF, sp, List.map_nil, List.length_nil]; rfl
    | [a], sp => simp only [jevw, sli_str, f1, txtF, sp, List.map_cons, List.map_nil, List.length_cons, List.length_nil]; rfl
    | [a, c], sp =>
      simp only [jevw, sli_str, f1, txtF, sp, List.map_cons, List.map_nil, List.length_cons, List.length_nil, L, ll]
      cases h1 : lab a <;> cases h2 : lab c <;> simp [lineW, h1, h2, lnO, lnV]
    | a :: c :: d :: rs, sp =>
      simp only [jevw, sli_str, f1, txtF, sp, List.map_cons, List.length_cons, len4]
      simp [lineW, lnO]
def scF : List Ln → List Str → Bool × List Ln
  | acc, [] => (true, acc)
  | acc, r :: rs => match lineT r with
    | some l => scF (acc ++ [l]) rs
    | none => (false, acc)
theorem fileAny (h0 : ds[0]? = some (some d_is_label)) (T : HasTy ds) (n : Nat) (a0 : Option SV) (st : Store) (k : Nat) (hk : k ≤ 1000000) : ∀ (rs : List Str) (acc : List Ln) (a2 a3 a4 : Option SV), (∀ r ∈ rs, Tx k r) → acc.length + rs.length ≤ 1000001 →
    ∃ b2 b3 b4, loopJ (forBd (.tp [2, 3]) (evSs (callJ ds g (n + 2)) g l1_read_file)) ((rs.zipIdx acc.length).map fun p => .tuple [.int (p.2 : Nat), .str p.1]) [a0, some (.pv (.tuple (acc.map lnV))), a2, a3, a4] st =
      (fun η => if (scF acc rs).1 = true then .next η st else .exc ⟨7, some ("row", .int ((scF acc rs).2.length + 1))⟩ η st) [a0, some (.pv (.tuple ((scF acc rs).2.map lnV))), b2, b3, b4]
  | [], acc, a2, a3, a4, _, _ => ⟨a2, a3, a4, by simp [loop_nil, scF]⟩
  | r :: rs, acc, a2, a3, a4, h, hl => by
    rw [List.length_cons] at hl
    have S := fun st => line_in_any (g := g) h0 T n (h r List.mem_cons_self) hk st
    have A2 : addV (.int ((acc.length : Nat) : Int)) (.int 1) = some (.int ((acc.length : Int) + 1)) := rfl
    cases ho : lineT r with
    | some l =>
      rw [ho] at S
      have A : addV (.tuple (acc.map lnV)) (.tuple [lnV l]) = some (.tuple ((acc ++ [l]).map lnV)) := by
        rw [add_tups (by simp only [List.length_map, List.length_singleton]; unfold line; omega), List.map_append]
        rfl
      obtain ⟨b2, b3, b4, e⟩ := fileAny h0 T n a0 st k hk rs (acc ++ [l]) (some (.pv (.int (acc.length : Nat)))) (some (.pv (.str r))) (some (.pv (lnV l))) (fun x hx => h x (List.mem_cons_of_mem _ hx)) (by rw [List.length_append, List.length_singleton]; omega)
      refine ⟨b2, b3, b4, ?_⟩
      have hn : isNon (lnV l) = false := rfl
      have hb : forBd (.tp [2, 3]) (evSs (callJ ds g (n + 2)) g l1_read_file) (.tuple [.int (acc.length : Nat), .str r]) [a0, some (.pv (.tuple (acc.map lnV))), a2, a3, a4] st = .next [a0, some (.pv (.tuple ((acc ++ [l]).map lnV))), some (.pv (.int (acc.length : Nat))), some (.pv (.str r)), some (.pv (lnV l))] st := by
        unfold l1_read_file
        show evSs _ _ _ ((([a0, some (.pv (.tuple (acc.map lnV))), a2, a3, a4] : Envr).set 2 (some (.pv (.int (acc.length : Nat))))).set 3 (some (.pv (.str r)))) st = _
        simp only [jevw, S, lnO, hn, A]
        rfl
      have e2 : scF acc (r :: rs) = scF (acc ++ [l]) rs := by
        show (match lineT r with | some l => _ | none => _) = _
        rw [ho]
      rw [List.zipIdx_cons, List.map_cons, loop_next hb, e2]
      rw [List.length_append, List.length_singleton] at e
      exact e
    | none =>
      rw [ho] at S
      have e2 : scF acc (r :: rs) = (false, acc) := by
        show (match lineT r with | some l => _ | none => _) = _
        rw [ho]
      refine ⟨some (.pv (.int (acc.length : Nat))), some (.pv (.str r)), some (.pv .none), ?_⟩
      have hb : forBd (.tp [2, 3]) (evSs (callJ ds g (n + 2)) g l1_read_file) (.tuple [.int (acc.length : Nat), .str r]) [a0, some (.pv (.tuple (acc.map lnV))), a2, a3, a4] st = .exc ⟨7, some ("row", .int ((acc.length : Int) + 1))⟩ [a0, some (.pv (.tuple (acc.map lnV))), some (.pv (.int (acc.length : Nat))), some (.pv (.str r)), some (.pv .none)] st := by
        unfold l1_read_file
        show evSs _ _ _ ((([a0, some (.pv (.tuple (acc.map lnV))), a2, a3, a4] : Envr).set 2 (some (.pv (.int (acc.length : Nat))))).set 3 (some (.pv (.str r)))) st = _
        simp only [jevw, S, lnO, A2, raisxS]
      rw [List.zipIdx_cons, List.map_cons, e2]
      unfold loopJ
      rw [hb]
      rfl
theorem scF_ok : ∀ (rs : List Str) (acc : List Ln), acc.all okL = true → (scF acc rs).2.all okL = true
  | [], acc, h => h
  | r :: rs, acc, h => by
    unfold scF
    cases ho : lineT r with
    | some l => exact scF_ok rs _ (by simp [h, lineW_ok ho])
    | none => exact h
/-- what a text of a file is read as -/
def rdF (z : Str) : Int ⊕ List Ln := match scF [] (rowsT z) with
  | (true, ls) => if ls.length ≤ 40 then .inr ls else .inl ((ls.length : Int) + 1)
  | (false, ls) => .inl ((ls.length : Int) + 1)
def rdRF : Int ⊕ List Ln → Store → Res SV
  | .inl n, st => .exc ⟨7, some ("row", .int n)⟩ st
  | .inr ls, st => .ok (.pv (.tuple (ls.map lnV))) st
theorem read_file_any (F : HasRf ds g) (T : HasTy ds) (n : Nat) {z : Str} {k : Nat} (h : Tx k z) (hk : k ≤ 1000000) (st : Store) : callJ ds g (n + 4) 77 [.pv (.str z)] st = rdRF (rdF z) st := by
  rw [callJ_at T.h77 rfl]
  unfold d_read_file b_read_file
  obtain ⟨h1, h2⟩ := rowsT_tx h
  have R := fun st => rows_any (g := g) T (n + 2) h hk st
  have I : ∀ (ls : List Ln) st, ls.all okL = true → callJ ds g (n + 3) 2 [.pv (.tuple (ls.map lnV))] st = .ok (.pv (.bool (decide (ls.length ≤ 40)))) st := fun ls st hf => by
    rw [is_file_eq (g := g) F.h0 F.h1 F.h2 F.g0 n _ st, filP_V]; simp [hf]
  obtain ⟨b2, b3, b4, e⟩ := fileAny (g := g) F.h0 T (n + 1) (some (.pv (.str z))) st k hk (rowsT z) [] none none none h1 (by simp; omega)
  have e : loopJ (forBd (.tp [2, 3]) (evSs (callJ ds g (n + 3)) g l1_read_file)) (enumL (List.map PyData.str (rowsT z))) [some (.pv (.str z)), some (.pv (.tuple [])), none, none, none] st =
      (fun η => if (scF [] (rowsT z)).1 = true then .next η st else .exc ⟨7, some ("row", .int ((scF [] (rowsT z)).2.length + 1))⟩ η st) [some (.pv (.str z)), some (.pv (.tuple ((scF [] (rowsT z)).2.map lnV))), b2, b3, b4] := by
    rw [enumL_rows]
    exact e
  have hok := scF_ok (rowsT z) [] rfl
  unfold rdF
  generalize hq : scF [] (rowsT z) = q at e hok
  obtain ⟨ok, ls⟩ := q
  cases ok with
  | false =>
    simp only [Bool.false_eq_true, if_false] at e
    simp only [jevw, R, forS, e]
    rfl
  | true =>
    simp only [if_true] at e
    have A2 : ∀ i : Int, addV (.int i) (.int 1) = some (.int (i + 1)) := fun i => rfl
    have I' := fun st => I ls st hok
    by_cases hs : ls.length ≤ 40
    · simp only [jevw, R, forS, e, I', hs]
      simp [rdRF, hs]
    · simp only [jevw, R, forS, e, I', hs, raisxS, A2, biV, List.length_map]
      simp [rdRF, hs]
end
end P
end

section
set_option maxRecDepth 100000
/-! K15l: the law k15: its own defs. -/
namespace T
open PySem PySem.Spec J P
open L2 (atI ixN atI_nat)
abbrev ds := D.ds
abbrev g := D.g
theorem rd : HasRd ds g := ⟨rfl, rfl, rfl, rfl, rfl, rfl, rfl, rfl, rfl, rfl⟩
theorem rf : HasRf ds g := ⟨rfl, rfl, rfl, rfl⟩
theorem ty : HasTy ds := ⟨rfl, rfl, rfl, rfl⟩
theorem dst : HasSt ds := ⟨⟨rfl, rfl, rfl⟩, rfl, rfl, rfl, rfl⟩
theorem isl : HasIs ds := ⟨⟨rfl, rfl, rfl⟩, rfl, rfl, rfl⟩
theorem sli_tup {xs : List PV} {lo hi : Option Int} : sliV (.tuple xs) lo hi = some (.tuple (cutL xs lo hi)) := rfl
def glue (r : Str) (ps : List Str) : Str := ps.foldl (fun r p => (r ++ spS) ++ p) r
theorem glue_is : ∀ (ps : List Str) (r : Str), glue r ps = ⟨ps.foldl (fun acc p => acc ++ spS.cps ++ p.cps) r.cps⟩
  | [], r => rfl
  | p :: ps, r => glue_is ps ((r ++ spS) ++ p)
theorem glue_row (w : Str) (ps : List Str) : glue w ps = rowS (w :: ps) := glue_is ps w
theorem wordLoop (n : Nat) (a0 a1 a2 : Option SV) (st : Store) : ∀ (ps : List Str) (r : Str) (a4 : Option SV), (∀ p ∈ ps, word8 p = true) → r.length + ps.length * 9 ≤ 1000 →
    ∃ b4, loopJ (forBd (.nm 4) (evSs (callJ ds g n) g l1__law_text)) (ps.map .str) [a0, a1, a2, some (.pv (.str r)), a4] st = .next [a0, a1, a2, some (.pv (.str (glue r ps))), b4] st
  | [], r, a4, _, _ => ⟨a4, rfl⟩
  | p :: ps, r, a4, h, hl => by
    have hp := (word_len (h p List.mem_cons_self)).1
    rw [List.length_cons] at hl
    have es : spS.length = 1 := by decide +kernel
    obtain ⟨b4, e⟩ := wordLoop n a0 a1 a2 st ps ((r ++ spS) ++ p) (some (.pv (.str p))) (fun x hx => h x (List.mem_cons_of_mem _ hx)) (by rw [len_app, len_app, es]; omega)
    refine ⟨b4, ?_⟩
    have A1 : addV (.str r) (.str (" " : Str)) = some (.str (r ++ spS)) := add_strs (x := r) (y := spS) (by rw [es]; unfold line; omega)
    have A2 : addV (.str (r ++ spS)) (.str p) = some (.str ((r ++ spS) ++ p)) := add_strs (by rw [len_app, es]; unfold line; omega)
    have hb : forBd (.nm 4) (evSs (callJ ds g n) g l1__law_text) (.str p) [a0, a1, a2, some (.pv (.str r)), a4] st = .next [a0, a1, a2, some (.pv (.str ((r ++ spS) ++ p))), some (.pv (.str p))] st := by
      unfold l1__law_text
      show evSs _ _ _ (([a0, a1, a2, some (.pv (.str r)), a4] : Envr).set 4 (some (.pv (.str p)))) st = _
      simp only [jevw, A1, A2]
    rw [List.map_cons, loop_next hb, e]
    rfl
theorem textLoop (n c : Nat) (a0 : Option SV) {A : Store} (hA : A.length = c) : ∀ (ss : List (List Str)) (rows : List Str) (a2 a3 a4 : Option SV), ss.all okS = true → rows.length + ss.length ≤ 1000 →
    ∃ b2 b3 b4, loopJ (forBd (.nm 2) (evSs (callJ ds g n) g l2__law_text)) (ss.map stepV) [a0, some (.ref c), a2, a3, a4] (A ++ [.lst (rows.map .str)]) = .next [a0, some (.ref c), b2, b3, b4] (A ++ [.lst ((rows ++ ss.map rowS).map .str)])
  | [], rows, a2, a3, a4, _, _ => ⟨a2, a3, a4, by simp [loop_nil]⟩
  | s :: ss, rows, a2, a3, a4, h, hl => by
    have h' : okS s = true ∧ ss.all okS = true := by simpa using h
    rw [List.length_cons] at hl
    obtain ⟨w1, w2, w3⟩ := okS_words h'.1
    obtain ⟨w, ps, rfl⟩ := List.exists_cons_of_ne_nil w2
    have hw := (word_len (w1 w List.mem_cons_self)).1
    rw [List.length_cons] at w3
    obtain ⟨c4, e1⟩ := wordLoop n a0 (some (.ref c)) (some (.pv (stepV (w :: ps)))) (A ++ [.lst (rows.map .str)]) ps w a4 (fun x hx => w1 x (List.mem_cons_of_mem _ hx)) (by omega)
    obtain ⟨b2, b3, b4, e⟩ := textLoop n c a0 hA ss (rows ++ [rowS (w :: ps)]) (some (.pv (stepV (w :: ps)))) (some (.pv (.str (glue w ps)))) c4 h'.2 (by rw [List.length_append, List.length_singleton]; omega)
    refine ⟨b2, b3, b4, ?_⟩
    have hz : (rows.map PyData.str).length < line := by rw [List.length_map]; unfold line; omega
    have hb : forBd (.nm 2) (evSs (callJ ds g n) g l2__law_text) (stepV (w :: ps)) [a0, some (.ref c), a2, a3, a4] (A ++ [.lst (rows.map .str)]) = .next [a0, some (.ref c), some (.pv (stepV (w :: ps))), some (.pv (.str (glue w ps))), c4] (A ++ [.lst ((rows ++ [rowS (w :: ps)]).map .str)]) := by
      unfold l2__law_text
      show evSs _ _ _ (([a0, some (.ref c), a2, a3, a4] : Envr).set 2 (some (.pv (stepV (w :: ps))))) _ = _
      have e1 : loopJ (forBd (.nm 4) (evSs (callJ ds g n) g l1__law_text)) (ps.map .str) [a0, some (.ref c), some (.pv (.tuple (.str w :: ps.map .str))), some (.pv (.str w)), a4] (A ++ [.lst (rows.map .str)]) = .next [a0, some (.ref c), some (.pv (.tuple (.str w :: ps.map .str))), some (.pv (.str (glue w ps))), c4] (A ++ [.lst (rows.map .str)]) := e1
      simp only [jevw, stepV, sli_tup, cut_1, forS, itemsV, opt, e1, appS, get_at hA, set_at hA]
      rw [if_pos (show (rows.map PyData.str).length < 10000000 from by rw [List.length_map]; omega), glue_row]
      simp
    rw [List.map_cons, loop_next hb, e]
    simp
theorem law_text_eq (n : Nat) (ss : List (List Str)) (hs : scrS ss = true) (st : Store) : callJ ds g (n + 1) 150 [.pv (.tuple (ss.map stepV))] st = .ok (.pv (.str (textS ss))) st := by
  rw [callJ_at (d := d__law_text) rfl rfl]
  unfold d__law_text b__law_text
  obtain ⟨h1, h2⟩ := okS_all hs
  obtain ⟨b2, b3, b4, e⟩ := textLoop n st.length (some (.pv (.tuple (ss.map stepV)))) (A := st) rfl ss [] none none none h2 (by simp; omega)
  have e : loopJ (forBd (.nm 2) (evSs (callJ ds g n) g l2__law_text)) (ss.map stepV) [some (.pv (.tuple (ss.map stepV))), some (.ref st.length), none, none, none] (st ++ [.lst []]) = .next [some (.pv (.tuple (ss.map stepV))), some (.ref st.length), b2, b3, b4] (st ++ [.lst ((ss.map rowS).map .str)]) := e
  have E : joinV ("\n" : Str) (.list ((ss.map rowS).map .str)) = some (.str (textS ss)) := text_join h2 h1
  simp only [jevw, Nat.zero_le, forS, itemsV, opt, e, txtF, frzF, get_at (A := st) rfl, set_at (A := st) rfl, take_at (A := st) rfl, E]
theorem law_file_text_eq (n : Nat) (ls : List Ln) (hf : ls.all okL = true) (hl : ls.length ≤ 40) (st : Store) : callJ ds g (n + 1) 151 [.pv (.tuple (ls.map lnV))] st = .ok (.pv (.str (textF ls))) st := by
  rw [callJ_at (d := d__law_file_text) rfl rfl]
  unfold d__law_file_text b__law_file_text
  have C : ∀ a1 st, compF (binF .Add (binF .Add (binF .Add (ifF (idxF (slotF 1) (conF (.int 2))) (conF (.str "")) (conF (.str "#"))) (idxF (slotF 1) (conF (.int 0)))) (conF (.str "="))) (idxF (slotF 1) (conF (.int 1)))) (.nm 1) (valF (slotF 0)) trueF [1] [some (.pv (.tuple (ls.map lnV))), a1] st = .ok (.pv (.list ((ls.map lineS).map .str))) st := fun a1 st => by
    rw [compF_tmap ls lnV (fun l => .str (lineS l)) (by simp only [jevw, itemsV, opt]) (fun l hm => ?_) (by unfold line; omega)]
    · rw [List.map_map]; rfl
    · have h := List.all_eq_true.mp hf l hm
      have h1 := word_len (okL_words h).1
      have h2 := word_len (okL_words h).2
      have h4 : eqS.length = 1 := by decide +kernel
      rw [compB_nm]
      cases hb : l.b with
      | true =>
        have := sign_len true
        have a1 : addV (.str ("" : Str)) (.str l.k) = some (.str (signS true ++ l.k)) := add_strs (x := signS true) (by unfold line; omega)
        have a2 : addV (.str (signS true ++ l.k)) (.str ("=" : Str)) = some (.str ((signS true ++ l.k) ++ eqS)) := add_strs (y := eqS) (by rw [len_app]; unfold line; omega)
        have a3 : addV (.str ((signS true ++ l.k) ++ eqS)) (.str l.v) = some (.str (((signS true ++ l.k) ++ eqS) ++ l.v)) := add_strs (by rw [len_app, len_app]; unfold line; omega)
        simp only [jevw, lnV, hb, a1, a2, a3]
        unfold lineS
        rw [hb]
      | false =>
        have := sign_len false
        have a1 : addV (.str ("#" : Str)) (.str l.k) = some (.str (signS false ++ l.k)) := add_strs (x := signS false) (by unfold line; omega)
        have a2 : addV (.str (signS false ++ l.k)) (.str ("=" : Str)) = some (.str ((signS false ++ l.k) ++ eqS)) := add_strs (y := eqS) (by rw [len_app]; unfold line; omega)
        have a3 : addV (.str ((signS false ++ l.k) ++ eqS)) (.str l.v) = some (.str (((signS false ++ l.k) ++ eqS) ++ l.v)) := add_strs (by rw [len_app, len_app]; unfold line; omega)
        simp only [jevw, lnV, hb, a1, a2, a3]
        unfold lineS
        rw [hb]
  have E : joinV ("\n" : Str) (.list ((ls.map lineS).map .str)) = some (.str (textF ls)) := textF_join hf hl
  simp only [jevw, txtF, C, E]
theorem eqv_stps : ∀ ss : List (List Str), PyData.eqvAll (ss.map stepV) (ss.map stepV) = true
  | [] => rfl
  | s :: ss => by
    show (PyData.eqvAll (s.map .str) (s.map .str) && PyData.eqvAll (ss.map stepV) (ss.map stepV)) = true
    rw [eqv_stps ss, eqv_strs]
    rfl
theorem eq_scr (ss : List (List Str)) : eqP (.tuple (ss.map stepV)) (.tuple (ss.map stepV)) = some true := by
  unfold eqP
  rw [if_pos (by
    rw [Bool.or_self]
    show (ss.map stepV).all (dle 7) = true
    rw [List.all_map]
    exact List.all_eq_true.mpr fun s _ => dle_strs 6 s)]
  exact congrArg some (eqv_stps ss)

/-! ### an odd value -/
def oddL : List PV := [.none, .bool true, .bool false, .int 0, .int 1, .int (-1), .int (10 ^ 30), .str "", .str "a", .str "k", .str "set", .str "end", .str "top", .str "all", .str "abcdefghi", .str "A", .str "a b",
  .tuple [], .list [], .tuple [.str "drop", .str "k"], .tuple [.str "set", .str "k", .str "a"], .tuple [.str "k", .str "a", .bool true], .tuple [.tuple [.str "k", .str "a", .bool true]], .tuple [.str "swap", .str "k", .str "a", .str "a"]]
theorem odd_eq (n m : Nat) {st : Store} (w : Well st m) : ∃ (x : PV) (st' : Store), x ∈ oddL ∧ Dr m st st' ∧ callJ ds g (n + 3) 136 [.ref m] st = .ok (.pv x) st' := by
  obtain ⟨x, st', hx, d, e⟩ := out_eq (g := g) dst.toHasDr n m w (xs := oddL) (by simp [oddL]) (by simp [oddL])
  refine ⟨x, st', hx, d, ?_⟩
  rw [callJ_at (d := d__law_odd) rfl rfl]
  unfold d__law_odd b__law_odd
  have p : powV (.int 10) (.int 30) = some (.int (10 ^ 30)) := pow_int (by decide)
  have a1 : ∀ xs ys : List PV, xs.length + ys.length ≤ 100 → addV (.list xs) (.list ys) = some (.list (xs ++ ys)) := fun xs ys h => add_lst (by unfold line; omega)
  unfold oddL at e
  simp only [jevw, p, a1, e, d.take]
/-! ### what a text is due -/
theorem line_of_eq (n : Nat) {r : Str} {k : Nat} (h : Tx k r) (hk : k ≤ 1000000) (st : Store) : callJ ds g (n + 3) 152 [.pv (.str r)] st = .ok (.pv (lnO (lineT r))) st := by
  rw [callJ_at (d := d__law_line_of) rfl rfl]
  unfold d__law_line_of b__law_line_of
  have L := fun v st => law_line_eq (g := g) isl.toHasIsl n v st
  have sp := eq_any h hk
  have main : ∀ (ws : List Str) (on : Bool), (if linP (.tuple (ws.map PyData.str ++ [.bool on])) = true then (PyData.tuple (ws.map PyData.str ++ [.bool on])) else .none) = lnO (lineW ws on) := fun ws on => by
    match ws with
    | [] => rfl
    | [a] => rfl
    | [a, c] =>
      show (if (labP (.str a) && labP (.str c) && true) = true then _ else _) = _
      have e1 : labP (.str a) = lab a := rfl
      have e2 : labP (.str c) = lab c := rfl
      rw [e1, e2, Bool.and_true]
      cases h1 : lab a <;> cases h2 : lab c <;> simp [lineW, h1, h2, lnO, lnV]
    | a :: c :: d :: rs =>
      have : linP (.tuple ((a :: c :: d :: rs).map PyData.str ++ [.bool on])) = false := by
        cases rs <;> rfl
      rw [this]
      rfl
  have A : ∀ b, addV (.tuple ((Txt.split (bareT r) eqS).map .str)) (.tuple [.bool b]) = some (.tuple ((Txt.split (bareT r) eqS).map .str ++ [.bool b])) := fun b => by
    refine add_tups ?_
    have p := (pieces (bare_tx h).1 61).2
    rw [← eq_is] at p
    have := (bare_tx h).2
    rw [List.length_map, List.length_singleton]
    unfold line
    omega
  unfold lineT
  by_cases f1 : L2.cutS r none (some 1) = ("#" : Str)
  · have hb : hashB r = true := decide_eq_true f1
    have e : bareT r = L2.cutS r (some 1) none := if_pos hb
    rw [← main, hb]
    rw [e] at sp A ⊢
    have A' := A false
    simp only [jevw, sli_str, f1, txtF, sp, A', L]
    cases linP (.tuple ((Txt.split (L2.cutS r (some 1) none) eqS).map .str ++ [.bool false])) <;> simp
  · have hb : hashB r = false := decide_eq_false f1
    have e : bareT r = r := if_neg (by rw [hb]; simp)
    rw [← main, hb]
    rw [e] at sp A ⊢
    have A' := A true
    simp only [jevw, sli_str, f1, txtF, sp, A', L]
    cases linP (.tuple ((Txt.split r eqS).map .str ++ [.bool true])) <;> simp
theorem dueS (n : Nat) (a0 : Option SV) (st : Store) (k : Nat) (hk : k ≤ 1000000) : ∀ (rs : List Str) (acc : List (List Str)) (a3 a4 a5 : Option SV), (∀ r ∈ rs, Tx k r) → acc.length + rs.length ≤ 1000001 →
    ∃ b3 b4 b5, loopJ (forBd (.nm 3) (evSs (callJ ds g (n + 2)) g l1__law_due)) (rs.map .str) [a0, some (.pv (.bool true)), some (.pv (.tuple (acc.map stepV))), a3, a4, a5] st =
      if (scS acc rs).1 = true then .next [a0, some (.pv (.bool true)), some (.pv (.tuple ((scS acc rs).2.map stepV))), b3, b4, b5] st else .ret (.pv (.int ((scS acc rs).2.length + 1))) st
  | [], acc, a3, a4, a5, _, _ => ⟨a3, a4, a5, by simp [loop_nil, scS]⟩
  | r :: rs, acc, a3, a4, a5, h, hl => by
    rw [List.length_cons] at hl
    have sp := words_any (h r List.mem_cons_self) hk
    have S : ∀ st, callJ ds g (n + 2) 131 [.pv (.tuple ((wordsT r).map .str))] st = .ok (.pv (.bool (okS (wordsT r)))) st := fun st => by
      have := law_step_eq (g := g) isl n (stepV (wordsT r)) st
      rw [stepP_V] at this
      exact this
    have A : addV (.tuple (acc.map stepV)) (.tuple [.tuple ((wordsT r).map .str)]) = some (.tuple ((acc ++ [wordsT r]).map stepV)) := by
      rw [add_tups (by simp only [List.length_map, List.length_singleton]; unfold line; omega), List.map_append]
      rfl
    have A2 : ∀ i : Int, addV (.int i) (.int 1) = some (.int (i + 1)) := fun i => rfl
    by_cases ho : okS (wordsT r) = true
    · obtain ⟨b3, b4, b5, e⟩ := dueS n a0 st k hk rs (acc ++ [wordsT r]) (some (.pv (.str r))) (some (.pv (stepV (wordsT r)))) a5 (fun x hx => h x (List.mem_cons_of_mem _ hx)) (by rw [List.length_append, List.length_singleton]; omega)
      refine ⟨b3, b4, b5, ?_⟩
      have hb : forBd (.nm 3) (evSs (callJ ds g (n + 2)) g l1__law_due) (.str r) [a0, some (.pv (.bool true)), some (.pv (.tuple (acc.map stepV))), a3, a4, a5] st = .next [a0, some (.pv (.bool true)), some (.pv (.tuple ((acc ++ [wordsT r]).map stepV))), some (.pv (.str r)), some (.pv (stepV (wordsT r))), a5] st := by
        unfold l1__law_due
        show evSs _ _ _ (([a0, some (.pv (.bool true)), some (.pv (.tuple (acc.map stepV))), a3, a4, a5] : Envr).set 3 (some (.pv (.str r)))) st = _
        simp only [jevw, txtF, sp, S, A, ho, isNon]
        rfl
      have e2 : scS acc (r :: rs) = scS (acc ++ [wordsT r]) rs := by
        show (if okS (wordsT r) = true then _ else _) = _
        rw [if_pos ho]
      rw [List.map_cons, loop_next hb, e2]
      exact e
    · have ho' : okS (wordsT r) = false := by simpa using ho
      have e2 : scS acc (r :: rs) = (false, acc) := by
        show (if okS (wordsT r) = true then _ else _) = _
        rw [if_neg ho]
      refine ⟨none, none, none, ?_⟩
      have hb : forBd (.nm 3) (evSs (callJ ds g (n + 2)) g l1__law_due) (.str r) [a0, some (.pv (.bool true)), some (.pv (.tuple (acc.map stepV))), a3, a4, a5] st = .ret (.pv (.int ((acc.length : Int) + 1))) st := by
        unfold l1__law_due
        show evSs _ _ _ (([a0, some (.pv (.bool true)), some (.pv (.tuple (acc.map stepV))), a3, a4, a5] : Envr).set 3 (some (.pv (.str r)))) st = _
        simp only [jevw, txtF, sp, S, A2, ho', isNon, List.length_map]
      rw [List.map_cons, e2]
      unfold loopJ
      rw [hb]
      rfl
theorem dueF (n : Nat) (a0 : Option SV) (st : Store) (k : Nat) (hk : k ≤ 1000000) : ∀ (rs : List Str) (acc : List Ln) (a3 a4 a5 : Option SV), (∀ r ∈ rs, Tx k r) → acc.length + rs.length ≤ 1000001 →
    ∃ b3 b4 b5, loopJ (forBd (.nm 3) (evSs (callJ ds g (n + 3)) g l1__law_due)) (rs.map .str) [a0, some (.pv (.bool false)), some (.pv (.tuple (acc.map lnV))), a3, a4, a5] st =
      if (scF acc rs).1 = true then .next [a0, some (.pv (.bool false)), some (.pv (.tuple ((scF acc rs).2.map lnV))), b3, b4, b5] st else .ret (.pv (.int ((scF acc rs).2.length + 1))) st
  | [], acc, a3, a4, a5, _, _ => ⟨a3, a4, a5, by simp [loop_nil, scF]⟩
  | r :: rs, acc, a3, a4, a5, h, hl => by
    rw [List.length_cons] at hl
    have S := fun st => line_of_eq n (h r List.mem_cons_self) hk st
    have A2 : ∀ i : Int, addV (.int i) (.int 1) = some (.int (i + 1)) := fun i => rfl
    cases ho : lineT r with
    | some l =>
      rw [ho] at S
      have A : addV (.tuple (acc.map lnV)) (.tuple [lnV l]) = some (.tuple ((acc ++ [l]).map lnV)) := by
        rw [add_tups (by simp only [List.length_map, List.length_singleton]; unfold line; omega), List.map_append]
        rfl
      obtain ⟨b3, b4, b5, e⟩ := dueF n a0 st k hk rs (acc ++ [l]) (some (.pv (.str r))) (some (.pv (lnV l))) a5 (fun x hx => h x (List.mem_cons_of_mem _ hx)) (by rw [List.length_append, List.length_singleton]; omega)
      refine ⟨b3, b4, b5, ?_⟩
      have hn : isNon (lnV l) = false := rfl
      have hb : forBd (.nm 3) (evSs (callJ ds g (n + 3)) g l1__law_due) (.str r) [a0, some (.pv (.bool false)), some (.pv (.tuple (acc.map lnV))), a3, a4, a5] st = .next [a0, some (.pv (.bool false)), some (.pv (.tuple ((acc ++ [l]).map lnV))), some (.pv (.str r)), some (.pv (lnV l)), a5] st := by
        unfold l1__law_due
        show evSs _ _ _ (([a0, some (.pv (.bool false)), some (.pv (.tuple (acc.map lnV))), a3, a4, a5] : Envr).set 3 (some (.pv (.str r)))) st = _
        simp only [jevw, S, lnO, hn, A]
        rfl
      have e2 : scF acc (r :: rs) = scF (acc ++ [l]) rs := by
        show (match lineT r with | some l => _ | none => _) = _
        rw [ho]
      rw [List.map_cons, loop_next hb, e2]
      exact e
    | none =>
      rw [ho] at S
      have e2 : scF acc (r :: rs) = (false, acc) := by
        show (match lineT r with | some l => _ | none => _) = _
        rw [ho]
      refine ⟨none, none, none, ?_⟩
      have hb : forBd (.nm 3) (evSs (callJ ds g (n + 3)) g l1__law_due) (.str r) [a0, some (.pv (.bool false)), some (.pv (.tuple (acc.map lnV))), a3, a4, a5] st = .ret (.pv (.int ((acc.length : Int) + 1))) st := by
        unfold l1__law_due
        show evSs _ _ _ (([a0, some (.pv (.bool false)), some (.pv (.tuple (acc.map lnV))), a3, a4, a5] : Envr).set 3 (some (.pv (.str r)))) st = _
        simp only [jevw, S, lnO, A2, isNon, List.length_map]
      rw [List.map_cons, e2]
      unfold loopJ
      rw [hb]
      rfl
theorem rdS_nil : rdS ("" : Str) = .inr [] := by
  unfold rdS
  rw [show rowsT ("" : Str) = [] from if_pos rfl]
  show (if scrS [] = true then _ else _) = _
  rw [if_pos (by decide +kernel)]
theorem rdF_nil : rdF ("" : Str) = .inr [] := by
  unfold rdF
  rw [show rowsT ("" : Str) = [] from if_pos rfl]
  rfl
def valS : Int ⊕ List (List Str) → PV
  | .inl n => .int n
  | .inr ss => .tuple (ss.map stepV)
def valF : Int ⊕ List Ln → PV
  | .inl n => .int n
  | .inr ls => .tuple (ls.map lnV)
theorem due_odd (n : Nat) {v : PV} (h : isiV v "str" = false) (b : Bool) (st : Store) : callJ ds g (n + 1) 153 [.pv v, .pv (.bool b)] st = .ok (.pv (.int 0)) st := by
  rw [callJ_at (d := d__law_due) rfl rfl]
  unfold d__law_due b__law_due
  simp only [jevw, h]
theorem due_script (n : Nat) {z : Str} {k : Nat} (h : Tx k z) (hk : k ≤ 1000000) (st : Store) : callJ ds g (n + 4) 153 [.pv (.str z), .pv (.bool true)] st = .ok (.pv (valS (rdS z))) st := by
  rw [callJ_at (d := d__law_due) rfl rfl]
  unfold d__law_due b__law_due
  obtain ⟨h1, h2⟩ := rowsT_tx h
  have I : ∀ (ss : List (List Str)) st, callJ ds g (n + 3) 132 [.pv (.tuple (ss.map stepV))] st = .ok (.pv (.bool (scrS ss))) st := fun ss st => by
    rw [law_script_eq (g := g) isl n _ st, scrP_V]
  obtain ⟨b3, b4, b5, e⟩ := dueS (n + 1) (some (.pv (.str z))) st k hk (rowsT z) [] none none none h1 (by simp; omega)
  have e : loopJ (forBd (.nm 3) (evSs (callJ ds g (n + 3)) g l1__law_due)) ((rowsT z).map .str) [some (.pv (.str z)), some (.pv (.bool true)), some (.pv (.tuple [])), none, none, none] st = if (scS [] (rowsT z)).1 = true then .next [some (.pv (.str z)), some (.pv (.bool true)), some (.pv (.tuple ((scS [] (rowsT z)).2.map stepV))), b3, b4, b5] st else .ret (.pv (.int ((scS [] (rowsT z)).2.length + 1))) st := e
  have A2 : ∀ i : Int, addV (.int i) (.int 1) = some (.int (i + 1)) := fun i => rfl
  have sp := split_any h hk 10
  rw [← nl_is] at sp
  have sp : splitV z (.str ("\n" : Str)) = some (.list ((Txt.split z nlS).map .str)) := sp
  by_cases hz : z = ("" : Str)
  · subst hz
    have I0 : ∀ st, callJ ds g (n + 3) 132 [.pv (.tuple [])] st = .ok (.pv (.bool true)) st := fun st => by
      have := I [] st
      rw [show scrS [] = true from by decide +kernel] at this
      exact this
    rw [rdS_nil]
    simp only [jevw, forS, itemsV, opt, loop_nil, I0]
    rfl
  · have er : rowsT z = Txt.split z nlS := if_neg hz
    unfold rdS
    generalize hq : scS [] (rowsT z) = q at e
    rw [er] at e
    obtain ⟨ok, ss⟩ := q
    cases ok with
    | false =>
      simp only [Bool.false_eq_true, if_false] at e
      simp only [jevw, hz, forS, itemsV, opt, txtF, sp, e]
      rfl
    | true =>
      simp only [if_true] at e
      by_cases hs : scrS ss = true
      · simp only [jevw, hz, forS, itemsV, opt, txtF, sp, e, I, hs]
        simp [valS, hs]
      · have hs' : scrS ss = false := by simpa using hs
        simp only [jevw, hz, forS, itemsV, opt, txtF, sp, e, I, hs', A2, List.length_map]
        simp [valS, hs']
theorem due_file (n : Nat) {z : Str} {k : Nat} (h : Tx k z) (hk : k ≤ 1000000) (st : Store) : callJ ds g (n + 5) 153 [.pv (.str z), .pv (.bool false)] st = .ok (.pv (valF (rdF z))) st := by
  rw [callJ_at (d := d__law_due) rfl rfl]
  unfold d__law_due b__law_due
  obtain ⟨h1, h2⟩ := rowsT_tx h
  have hok := scF_ok (rowsT z) [] rfl
  have I : ∀ (ls : List Ln) st, ls.all okL = true → callJ ds g (n + 4) 129 [.pv (.tuple (ls.map lnV))] st = .ok (.pv (.bool (decide (ls.length ≤ 40)))) st := fun ls st hf => by
    rw [law_file_eq (g := g) isl.toHasIsl (n + 1) _ st, filP_V]
    simp [hf]
  obtain ⟨b3, b4, b5, e⟩ := dueF (n + 1) (some (.pv (.str z))) st k hk (rowsT z) [] none none none h1 (by simp; omega)
  have e : loopJ (forBd (.nm 3) (evSs (callJ ds g (n + 4)) g l1__law_due)) ((rowsT z).map .str) [some (.pv (.str z)), some (.pv (.bool false)), some (.pv (.tuple [])), none, none, none] st = if (scF [] (rowsT z)).1 = true then .next [some (.pv (.str z)), some (.pv (.bool false)), some (.pv (.tuple ((scF [] (rowsT z)).2.map lnV))), b3, b4, b5] st else .ret (.pv (.int ((scF [] (rowsT z)).2.length + 1))) st := e
  have A2 : ∀ i : Int, addV (.int i) (.int 1) = some (.int (i + 1)) := fun i => rfl
  have sp := split_any h hk 10
  rw [← nl_is] at sp
  have sp : splitV z (.str ("\n" : Str)) = some (.list ((Txt.split z nlS).map .str)) := sp
  by_cases hz : z = ("" : Str)
  · subst hz
    have I0 : ∀ st, callJ ds g (n + 4) 129 [.pv (.tuple [])] st = .ok (.pv (.bool true)) st := fun st => I [] st rfl
    rw [rdF_nil]
    simp only [jevw, forS, itemsV, opt, loop_nil, I0]
    rfl
  · have er : rowsT z = Txt.split z nlS := if_neg hz
    unfold rdF
    generalize hq : scF [] (rowsT z) = q at e hok
    rw [er] at e
    obtain ⟨ok, ls⟩ := q
    have I' := fun st => I ls st hok
    cases ok with
    | false =>
      simp only [Bool.false_eq_true, if_false] at e
      simp only [jevw, hz, forS, itemsV, opt, txtF, sp, e]
      rfl
    | true =>
      simp only [if_true] at e
      by_cases hs : ls.length ≤ 40
      · simp only [jevw, hz, forS, itemsV, opt, txtF, sp, e, I', hs]
        simp [valF, hs]
      · simp only [jevw, hz, forS, itemsV, opt, txtF, sp, e, I', hs, A2, List.length_map]
        simp [valF, hs]
end T
end

section
set_option maxRecDepth 100000
/-! K15m: the law k15: what is told, spoilt texts. -/
namespace T
open PySem PySem.Spec J P
open L2 (atI ixN atI_nat)
abbrev hsT : List (Nat × HB) := [(7, .fld "row"), (14, .word "else")]
theorem exc7 (n : Int) : excJ 14 hsT ⟨7, some ("row", .int n)⟩ = some (.int n) := by
  unfold excJ wordJ hsT
  simp [hbV]
theorem eqv_ok {x : PV} (h : dle 8 x = true) (e : PyData.eqv x x = true) : eqP x x = some true := by
  unfold eqP
  rw [if_pos (by rw [h]; rfl), e]
theorem eq_valS (r : Int ⊕ List (List Str)) : eqP (valS r) (valS r) = some true := by
  cases r with
  | inl n => show eqP (.int n) (.int n) = _; rw [J.eq_int]; simp
  | inr ss => exact eq_scr ss
theorem eq_valF (r : Int ⊕ List Ln) : eqP (valF r) (valF r) = some true := by
  cases r with
  | inl n => show eqP (.int n) (.int n) = _; rw [J.eq_int]; simp
  | inr ls => exact eq_file ls
theorem told_script (n : Nat) {η : Envr} {i : Nat} {z : Str} {k : Nat} (hi : η[i]? = some (some (.pv (.str z)))) (h : Tx k z) (hk : k ≤ 1000000) (st : Store) :
    lamwF 14 hsT none (callF (callJ ds g (n + 4) 73) (consF (slotF i) nilF)) η st = .ok (.pv (valS (rdS z))) st := by
  have R := read_script_any (g := g) rd ty n h hk st
  have e : callF (callJ ds g (n + 4) 73) (consF (slotF i) nilF) η st = rdR (rdS z) st := by
    unfold callF consF nilF slotF
    rw [hi]
    exact R
  unfold lamwF
  rw [e]
  cases rdS z with
  | inl m => simp only [rdR]; rw [exc7]; rfl
  | inr ss => rfl
theorem told_file (n : Nat) {η : Envr} {i : Nat} {z : Str} {k : Nat} (hi : η[i]? = some (some (.pv (.str z)))) (h : Tx k z) (hk : k ≤ 1000000) (st : Store) :
    lamwF 14 hsT none (callF (callJ ds g (n + 4) 77) (consF (slotF i) nilF)) η st = .ok (.pv (valF (rdF z))) st := by
  have R := read_file_any (g := g) rf ty n h hk st
  have e : callF (callJ ds g (n + 4) 77) (consF (slotF i) nilF) η st = rdRF (rdF z) st := by
    unfold callF consF nilF slotF
    rw [hi]
    exact R
  unfold lamwF
  rw [e]
  cases rdF z with
  | inl m => simp only [rdRF]; rw [exc7]; rfl
  | inr ss => rfl
theorem script_odd (n : Nat) {v : PV} (h : isiV v "str" = false) (st : Store) : callJ ds g (n + 2) 73 [.pv v] st = .exc ⟨7, some ("row", .int 0)⟩ st := by
  rw [callJ_at ty.h73 rfl]
  unfold d_read_script b_read_script
  have R := fun st => rows_odd (g := g) ty n h st
  simp only [jevw, R, forS]
theorem file_odd (n : Nat) {v : PV} (h : isiV v "str" = false) (st : Store) : callJ ds g (n + 2) 77 [.pv v] st = .exc ⟨7, some ("row", .int 0)⟩ st := by
  rw [callJ_at ty.h77 rfl]
  unfold d_read_file b_read_file
  have R := fun st => rows_odd (g := g) ty n h st
  simp only [jevw, R, forS]
theorem told_odd {F : List SV → Store → Res SV} {η : Envr} {i : Nat} {v : PV} {st : Store} (hi : η[i]? = some (some (.pv v))) (h : F [.pv v] st = .exc ⟨7, some ("row", .int 0)⟩ st) :
    lamwF 14 hsT none (callF F (consF (slotF i) nilF)) η st = .ok (.pv (.int 0)) st := by
  have e : callF F (consF (slotF i) nilF) η st = .exc ⟨7, some ("row", .int 0)⟩ st := by
    unfold callF consF nilF slotF
    rw [hi]
    exact h
  unfold lamwF
  rw [e]
  simp only
  rw [exc7]
  rfl
/-! ### both comparisons -/
/-- a text (or any other value) is told as it is due -/
def Even (n : Nat) (v : PV) : Prop := (∀ (η : Envr) (i : Nat) (st : Store), η[i]? = some (some (.pv v)) → ∃ x, lamwF 14 hsT none (callF (callJ ds g n 73) (consF (slotF i) nilF)) η st = .ok (.pv x) st ∧ (∀ st, callJ ds g n 153 [.pv v, .pv (.bool true)] st = .ok (.pv x) st) ∧ eqP x x = some true) ∧
  ∀ (η : Envr) (i : Nat) (st : Store), η[i]? = some (some (.pv v)) → ∃ x, lamwF 14 hsT none (callF (callJ ds g n 77) (consF (slotF i) nilF)) η st = .ok (.pv x) st ∧ (∀ st, callJ ds g n 153 [.pv v, .pv (.bool false)] st = .ok (.pv x) st) ∧ eqP x x = some true
theorem even_text (n : Nat) {z : Str} {k : Nat} (h : Tx k z) (hk : k ≤ 1000000) : Even (n + 5) (.str z) :=
  ⟨fun η i st hi => ⟨valS (rdS z), told_script (n + 1) hi h hk st, fun st => due_script (n + 1) h hk st, eq_valS _⟩, fun η i st hi => ⟨valF (rdF z), told_file (n + 1) hi h hk st, fun st => due_file n h hk st, eq_valF _⟩⟩
theorem even_odd (n : Nat) {v : PV} (h : isiV v "str" = false) : Even (n + 2) v := by
  have e0 : eqP (.int 0) (.int 0) = some true := rfl
  exact ⟨fun η i st hi => ⟨.int 0, told_odd hi (script_odd n h st), fun st => due_odd (n + 1) h true st, e0⟩, fun η i st hi => ⟨.int 0, told_odd hi (file_odd n h st), fun st => due_odd (n + 1) h false st, e0⟩⟩
theorem even_oddL (n : Nat) {x : PV} (h : x ∈ oddL) : Even (n + 5) x := by
  have t : ∀ z : Str, fitS z = true → z.length ≤ 100 → Even (n + 5) (.str z) := fun z h1 h2 => even_text n (k := 100) ⟨h1, h2⟩ (by decide)
  simp only [oddL, List.mem_cons, List.not_mem_nil, or_false] at h
  rcases h with rfl | rfl | rfl | rfl | rfl | rfl | rfl | rfl | rfl | rfl | rfl | rfl | rfl | rfl | rfl | rfl | rfl | rfl | rfl | rfl | rfl | rfl | rfl | rfl
  all_goals first | exact even_odd (n + 3) rfl | exact t _ (by decide +kernel) (by decide +kernel)
/-! ### a text with one place otherwise -/
theorem sum_sub {xs ys : List Str} (h : List.Sublist ys xs) : (ys.map (·.length)).sum ≤ (xs.map (·.length)).sum := by
  induction h with
  | slnil => exact Nat.le_refl _
  | cons a h ih => simp only [List.map_cons, List.sum_cons]; omega
  | cons_cons a h ih => simp only [List.map_cons, List.sum_cons]; omega
theorem cutL_sub {xs : List Str} (lo hi : Option Int) : List.Sublist (cutL xs lo hi) xs := (List.take_sublist _ _).trans (List.drop_sublist _ _)
theorem cutL_map (xs : List Str) (lo hi : Option Int) : cutL (xs.map PyData.str) lo hi = (cutL xs lo hi).map .str := by
  unfold cutL
  rw [List.length_map, List.map_take, List.map_drop]
theorem out_str (n m : Nat) {st : Store} (w : Well st m) (z : Str) (hz : 1 ≤ z.length) (hl : z.length < 1000) : ∃ (c : Nat) (st' : Store), c ∈ z.cps.toList ∧ Dr m st st' ∧ callJ ds g (n + 2) 122 [.ref m, .pv (.str z)] st = .ok (.pv (.str ⟨#[c]⟩)) st' := by
  obtain ⟨r, st', hr, d, e⟩ := pull_eq (g := g) dst.toHasDr n m w (z.length : Int) (by omega) (by omega)
  have hlen : z.cps.toList.length = z.length := (TL.len_tl z).symm
  have hr' : r < z.cps.toList.length := by omega
  refine ⟨z.cps.toList[r], st', List.getElem_mem hr', d, ?_⟩
  rw [callJ_at (d := d__law_out) rfl rfl]
  unfold d__law_out b__law_out
  have ha : idxV (.str z) (.int (r : Int)) = some (.str ⟨#[z.cps.toList[r]]⟩) := by
    show (atI z.cps.toList (r : Int)).map _ = _
    rw [atI_nat (by simp [hr'] : z.cps.toList[r]? = some z.cps.toList[r])]
    rfl
  simp only [jevw, e, ha, d.take]
theorem app_tx {x y : Str} {a b : Nat} (h1 : Tx a x) (h2 : Tx b y) (hl : a + b ≤ 1000000) : addV (.str x) (.str y) = some (.str (x ++ y)) ∧ Tx (a + b) (x ++ y) := by
  obtain ⟨f1, l1⟩ := h1
  obtain ⟨f2, l2⟩ := h2
  have hz : x.length + y.length ≤ line := by unfold line; omega
  exact ⟨add_strs hz, app_fit f1 f2 hz, by rw [len_app]; omega⟩
theorem join_tx {ys : List Str} {B : Nat} (h : ∀ y ∈ ys, fitS y = true) (hs : (ys.map (·.length)).sum + ys.length ≤ B) (hB : B ≤ 1000000) : joinV ("\n" : Str) (.list (ys.map .str)) = some (.str (Txt.join nlS ys)) ∧ Tx B (Txt.join nlS ys) := by
  have e1 : nlS.length = 1 := by decide +kernel
  have hs' : (ys.map (·.length)).sum + ys.length * nlS.length ≤ 1000000 := by rw [e1]; omega
  refine ⟨joinL_strs nl_fit h hs', join_fit nl_fit h hs', ?_⟩
  have := join_len nlS ys
  rw [e1] at this
  omega
theorem spoilt_eq (n m : Nat) {st : Store} (w : Well st m) {z : Str} {k : Nat} (h : Tx k z) (hk : k ≤ 10000) :
    ∃ (z' : Str) (st' : Store), Tx (2 * k + 2) z' ∧ Dr m st st' ∧ callJ ds g (n + 3) 154 [.ref m, .pv (.str z)] st = .ok (.pv (.str z')) st' := by
  have hzl := h.2
  obtain ⟨a, st1, ha, d1, e1⟩ := pull_eq (g := g) dst.toHasDr (n + 1) m w ((z.length : Int) + 1) (by omega) (by omega)
  obtain ⟨way, st2, hw, d2, e2⟩ := pull_eq (g := g) dst.toHasDr (n + 1) m (d1.well w) 5 (by decide) (by decide)
  obtain ⟨p1, p2⟩ := pieces h.1 10
  rw [← nl_is] at p1 p2
  have sp := split_any h (by omega) 10
  rw [← nl_is] at sp
  have sp : splitV z (.str ("\n" : Str)) = some (.list ((Txt.split z nlS).map .str)) := sp
  have hne : 1 ≤ (Txt.split z nlS).length := by
    rw [nl_is]
    exact List.length_pos_iff.mpr (split_ne z 10)
  generalize hys : Txt.split z nlS = ys at p1 p2 sp hne
  obtain ⟨here, st3, hh, d3, e3⟩ := pull_eq (g := g) dst.toHasDr (n + 1) m ((d1.trans d2).well w) (ys.length : Int) (by omega) (by omega)
  have D3 := (d1.trans d2).trans d3
  have w3 := D3.well w
  have two : ∀ (l1 h1 l2 h2 : Option Int), addV (.list (cutL (ys.map PyData.str) l1 h1)) (.list (cutL (ys.map PyData.str) l2 h2)) = some (.list ((cutL ys l1 h1 ++ cutL ys l2 h2).map .str)) ∧ joinV ("\n" : Str) (.list ((cutL ys l1 h1 ++ cutL ys l2 h2).map .str)) = some (.str (Txt.join nlS (cutL ys l1 h1 ++ cutL ys l2 h2))) ∧ Tx (2 * k + 2) (Txt.join nlS (cutL ys l1 h1 ++ cutL ys l2 h2)) := fun l1 h1 l2 h2 => by
    have s1 := cutL_sub (xs := ys) l1 h1
    have s2 := cutL_sub (xs := ys) l2 h2
    have q1 := sum_sub s1
    have q2 := sum_sub s2
    have z1 := s1.length_le
    have z2 := s2.length_le
    have J1 := join_tx (ys := cutL ys l1 h1 ++ cutL ys l2 h2) (B := 2 * k + 2) (fun y hy => by
      rcases List.mem_append.mp hy with q | q
      · exact (p1 y (s1.subset q)).1
      · exact (p1 y (s2.subset q)).1) (by
      rw [List.map_append, List.sum_append, List.length_append]
      omega) (by omega)
    refine ⟨?_, J1⟩
    rw [cutL_map, cutL_map, add_lst (by rw [List.length_map, List.length_map]; unfold line; omega), List.map_append]
  have one : ∀ (l2 h2 : Option Int), addV (.list (ys.map PyData.str)) (.list (cutL (ys.map PyData.str) l2 h2)) = some (.list ((ys ++ cutL ys l2 h2).map .str)) ∧ joinV ("\n" : Str) (.list ((ys ++ cutL ys l2 h2).map .str)) = some (.str (Txt.join nlS (ys ++ cutL ys l2 h2))) ∧ Tx (2 * k + 2) (Txt.join nlS (ys ++ cutL ys l2 h2)) := fun l2 h2 => by
    have s2 := cutL_sub (xs := ys) l2 h2
    have q2 := sum_sub s2
    have z2 := s2.length_le
    have J1 := join_tx (ys := ys ++ cutL ys l2 h2) (B := 2 * k + 2) (fun y hy => by
      rcases List.mem_append.mp hy with q | q
      · exact (p1 y q).1
      · exact (p1 y (s2.subset q)).1) (by
      rw [List.map_append, List.sum_append, List.length_append]
      omega) (by omega)
    refine ⟨?_, J1⟩
    rw [cutL_map, add_lst (by rw [List.length_map, List.length_map]; unfold line; omega), List.map_append]
  have c0 := cut_tx h none (some (a : Int))
  have c1 := cut_tx h (some ((a : Int) + 1)) none
  have c2 := cut_tx h (some (a : Int)) none
  obtain ⟨A0, T0⟩ := app_tx c0 c1 (by omega)
  have len1 : biV .len (.list (ys.map PyData.str)) = some (.int (ys.length : Int)) := by
    show some (PyData.int (((ys.map PyData.str).length : Nat) : Int)) = _
    rw [List.length_map]
  have hcases : way = 0 ∨ way = 1 ∨ way = 2 ∨ way = 3 ∨ way = 4 := by omega
  rcases hcases with rfl | rfl | rfl | rfl | rfl
  · refine ⟨_, st3, T0.mono (by omega), D3, ?_⟩
    rw [callJ_at (d := d__law_spoilt) rfl rfl]
    unfold d__law_spoilt b__law_spoilt
    simp only [jevw, e1, e2, txtF, sp, List.length_map, e3, sli_str, A0, D3.take, setAllS]
    rfl
  · obtain ⟨c, st4, hc, d4, e4⟩ := out_str n m w3 (" \n#=akA1" : Str) (by decide +kernel) (by decide +kernel)
    have fc : Tx 1 (⟨#[c]⟩ : Str) := by
      refine ⟨one_fit ?_, Nat.le_refl _⟩
      have : ∀ c ∈ (" \n#=akA1" : Str).cps.toList, c < 256 := by decide +kernel
      exact this c hc
    obtain ⟨A1, T1⟩ := app_tx c0 fc (by omega)
    obtain ⟨A2, T2⟩ := app_tx T1 c2 (by omega)
    refine ⟨_, st4, T2.mono (by omega), D3.trans d4, ?_⟩
    rw [callJ_at (d := d__law_spoilt) rfl rfl]
    unfold d__law_spoilt b__law_spoilt
    simp only [jevw, e1, e2, txtF, sp, List.length_map, e3, sli_str, e4, A1, A2, (D3.trans d4).take, setAllS]
    rfl
  · obtain ⟨B1, B2, B3⟩ := two none (some ((here : Int) + 1)) (some (here : Int)) none
    refine ⟨_, st3, B3, D3, ?_⟩
    rw [callJ_at (d := d__law_spoilt) rfl rfl]
    unfold d__law_spoilt b__law_spoilt
    simp only [jevw, e1, e2, txtF, sp, List.length_map, e3, sli_lst, B1, B2, D3.take, setAllS]
    rfl
  · obtain ⟨B1, B2, B3⟩ := two none (some (here : Int)) (some ((here : Int) + 1)) none
    refine ⟨_, st3, B3, D3, ?_⟩
    rw [callJ_at (d := d__law_spoilt) rfl rfl]
    unfold d__law_spoilt b__law_spoilt
    simp only [jevw, e1, e2, txtF, sp, List.length_map, e3, sli_lst, B1, B2, D3.take, setAllS]
    rfl
  · obtain ⟨B1, B2, B3⟩ := one (some (here : Int)) none
    refine ⟨_, st3, B3, D3, ?_⟩
    rw [callJ_at (d := d__law_spoilt) rfl rfl]
    unfold d__law_spoilt b__law_spoilt
    simp only [jevw, e1, e2, txtF, sp, List.length_map, e3, sli_lst, B1, B2, D3.take, setAllS]
    rfl
end T
end

section
set_option maxRecDepth 100000
/-! K15n: the law k15. -/
namespace T
open PySem PySem.Spec J P
open L2 (atI ixN atI_nat)
/-- v is told as it is due, for scripts (F = 73, b) or files -/
def EvS (v : PV) : Prop := ∃ x, (∀ (η : Envr) (i : Nat) (st : Store), η[i]? = some (some (.pv v)) → lamwF 14 hsT none (callF (callJ ds g 39 73) (consF (slotF i) nilF)) η st = .ok (.pv x) st) ∧ (∀ st, callJ ds g 39 153 [.pv v, .pv (.bool true)] st = .ok (.pv x) st) ∧ eqP x x = some true
def EvF (v : PV) : Prop := ∃ x, (∀ (η : Envr) (i : Nat) (st : Store), η[i]? = some (some (.pv v)) → lamwF 14 hsT none (callF (callJ ds g 39 77) (consF (slotF i) nilF)) η st = .ok (.pv x) st) ∧ (∀ st, callJ ds g 39 153 [.pv v, .pv (.bool false)] st = .ok (.pv x) st) ∧ eqP x x = some true
theorem evS_text {z : Str} {k : Nat} (h : Tx k z) (hk : k ≤ 1000000) : EvS (.str z) := ⟨valS (rdS z), fun η i st hi => told_script 35 hi h hk st, fun st => due_script 35 h hk st, eq_valS _⟩
theorem evF_text {z : Str} {k : Nat} (h : Tx k z) (hk : k ≤ 1000000) : EvF (.str z) := ⟨valF (rdF z), fun η i st hi => told_file 35 hi h hk st, fun st => due_file 34 h hk st, eq_valF _⟩
theorem evS_odd {v : PV} (h : isiV v "str" = false) : EvS v := ⟨.int 0, fun η i st hi => told_odd hi (script_odd 37 h st), fun st => due_odd 38 h true st, rfl⟩
theorem evF_odd {v : PV} (h : isiV v "str" = false) : EvF v := ⟨.int 0, fun η i st hi => told_odd hi (file_odd 37 h st), fun st => due_odd 38 h false st, rfl⟩
theorem ev_oddL {x : PV} (h : x ∈ oddL) : EvS x ∧ EvF x := by
  have t : ∀ z : Str, fitS z = true → z.length ≤ 100 → EvS (.str z) ∧ EvF (.str z) := fun z h1 h2 => ⟨evS_text (k := 100) ⟨h1, h2⟩ (by decide), evF_text (k := 100) ⟨h1, h2⟩ (by decide)⟩
  have o : ∀ v, isiV v "str" = false → EvS v ∧ EvF v := fun v h => ⟨evS_odd h, evF_odd h⟩
  simp only [oddL, List.mem_cons, List.not_mem_nil, or_false] at h
  rcases h with rfl | rfl | rfl | rfl | rfl | rfl | rfl | rfl | rfl | rfl | rfl | rfl | rfl | rfl | rfl | rfl | rfl | rfl | rfl | rfl | rfl | rfl | rfl | rfl
  all_goals first | exact o _ rfl | exact t _ (by decide +kernel) (by decide +kernel)
/-! ### the loops -/
theorem l1_ok (t : Int) (a0 a1 a3 a6 a7 a8 a9 a10 : Option SV) {st : Store} {m : Nat} (w : Well st m) {x y : Str} {k : Nat} (hx : Tx k x) (hy : Tx k y) (hk : k ≤ 10000) :
    ∃ x' y' st', Tx (2 * k + 2) x' ∧ Tx (2 * k + 2) y' ∧ Dr m st st' ∧ forBd (.nm 6) (evSs (callJ ds g 39) g l1_law) (.int t) [a0, a1, some (.ref m), a3, some (.pv (.str x)), some (.pv (.str y)), a6, a7, a8, a9, a10] st = .next [a0, a1, some (.ref m), a3, some (.pv (.str x')), some (.pv (.str y')), some (.pv (.int t)), a7, a8, a9, a10] st' := by
  obtain ⟨x', st1, h1, d1, e1⟩ := spoilt_eq 36 m w hx hk
  obtain ⟨y', st2, h2, d2, e2⟩ := spoilt_eq 36 m (d1.well w) hy hk
  refine ⟨x', y', st2, h1, h2, d1.trans d2, ?_⟩
  unfold l1_law
  show evSs _ _ _ (([a0, a1, some (.ref m), a3, some (.pv (.str x)), some (.pv (.str y)), a6, a7, a8, a9, a10] : Envr).set 6 (some (.pv (.int t)))) st = _
  simp only [jevw, e1, e2, asgT, setAll]
theorem l1_loop (r : Nat) (hr : (r : Int) < 2) (a0 a1 a3 a6 a7 a8 a9 a10 : Option SV) {st : Store} {m : Nat} (w : Well st m) {x y : Str} {k : Nat} (hx : Tx k x) (hy : Tx k y) (hk : k ≤ 4000) :
    ∃ x' y' b6 st', Tx (4 * k + 6) x' ∧ Tx (4 * k + 6) y' ∧ Dr m st st' ∧ loopJ (forBd (.nm 6) (evSs (callJ ds g 39) g l1_law)) (rngL 0 (1 + (r : Int))) [a0, a1, some (.ref m), a3, some (.pv (.str x)), some (.pv (.str y)), a6, a7, a8, a9, a10] st = .next [a0, a1, some (.ref m), a3, some (.pv (.str x')), some (.pv (.str y')), b6, a7, a8, a9, a10] st' := by
  obtain ⟨x1, y1, st1, h1, h2, d1, e1⟩ := l1_ok 0 a0 a1 a3 a6 a7 a8 a9 a10 w hx hy (by omega)
  have hc : r = 0 ∨ r = 1 := by omega
  rcases hc with rfl | rfl
  · refine ⟨x1, y1, some (.pv (.int 0)), st1, h1.mono (by omega), h2.mono (by omega), d1, ?_⟩
    have e : rngL 0 (1 + ((0 : Nat) : Int)) = [.int 0] := rfl
    rw [e, loop_next e1, loop_nil]
  · obtain ⟨x2, y2, st2, g1, g2, d2, e2⟩ := l1_ok 1 a0 a1 a3 (some (.pv (.int 0))) a7 a8 a9 a10 (d1.well w) h1 h2 (by omega)
    refine ⟨x2, y2, some (.pv (.int 1)), st2, g1.mono (by omega), g2.mono (by omega), d1.trans d2, ?_⟩
    have e : rngL 0 (1 + ((1 : Nat) : Int)) = [.int 0, .int 1] := rfl
    rw [e, loop_next e1, loop_next e2, loop_nil]
theorem text_tx {ss : List (List Str)} (h : ss.all okS = true) (hl : ss.length ≤ 6) : Tx 1000 (textS ss) := by
  refine ⟨join_fit nl_fit (fun p hp => ?_) (by have := text_sum h hl; omega), text_len h hl⟩
  obtain ⟨s, hs, rfl⟩ := List.mem_map.mp hp
  exact row_fit (List.all_eq_true.mp h s hs)
theorem textF_tx {ls : List Ln} (h : ls.all okL = true) (hl : ls.length ≤ 40) : Tx 1000 (textF ls) := by
  refine ⟨join_fit nl_fit (fun p hp => ?_) (by have := textF_sum h hl; omega), textF_len h hl⟩
  obtain ⟨l, hm, rfl⟩ := List.mem_map.mp hp
  exact line_fit (List.all_eq_true.mp h l hm)
theorem l2_ok (t : Int) (a0 a1 a3 a4 a5 a6 a7 a8 a9 a10 : Option SV) {st : Store} {m : Nat} (w : Well st m) :
    ∃ b4 b5 b6 st', Dr m st st' ∧ forBd (.nm 3) (evSs (callJ ds g 39) g l2_law) (.int t) [a0, a1, some (.ref m), a3, a4, a5, a6, a7, a8, a9, a10] st = .next [a0, a1, some (.ref m), some (.pv (.int t)), b4, b5, b6, a7, a8, a9, a10] st' := by
  obtain ⟨ss, ks, st1, hks, hss, hds, d1, e1⟩ := script_eq (g := g) dst 35 m w 6 (by decide)
  have hs := drawn_scr hss hds
  obtain ⟨s1, s2⟩ := okS_all hs
  obtain ⟨ls, kf, st2, hkf, hl, hdl, d2, e2⟩ := file_eq (g := g) dst 35 m (d1.well w) 25 (by decide)
  have hf := drawn_fil hkf hdl
  have C : callJ ds g 39 124 [.ref m, .pv (.int 6)] st = .ok (.pv (.tuple (ss.map stepV))) st1 := e1
  have F : callJ ds g 39 126 [.ref m, .pv (.int 25)] st1 = .ok (.pv (.tuple (ls.map lnV))) st2 := e2
  have A2 : ∀ st, callJ ds g 39 150 [.pv (.tuple (ss.map stepV))] st = .ok (.pv (.str (textS ss))) st := fun st => law_text_eq 38 ss hs st
  have B2 : ∀ st, callJ ds g 39 151 [.pv (.tuple (ls.map lnV))] st = .ok (.pv (.str (textF ls))) st := fun st => law_file_text_eq 38 ls hf (by omega) st
  obtain ⟨r, st3, hr, d3, e3⟩ := pull_eq (g := g) dst.toHasDr 38 m ((d1.trans d2).well w) 2 (by decide) (by decide)
  have D3 := (d1.trans d2).trans d3
  obtain ⟨x, y, b6, st4, hx, hy, d4, e4⟩ := l1_loop r hr a0 a1 (some (.pv (.int t))) a6 a7 a8 a9 a10 (D3.well w) (text_tx s2 s1) (textF_tx hf (by omega)) (by decide)
  have ad : addV (.int 1) (.int (r : Int)) = some (.int (1 + (r : Int))) := rfl
  have ok : rngOk (1 + (r : Int)) = true := by
    unfold rngOk
    simp only [Bool.and_eq_true, decide_eq_true_eq]
    omega
  obtain ⟨vx, X1, X2, X3⟩ := evS_text hx (by decide)
  obtain ⟨vy, Y1, Y2, Y3⟩ := evF_text hy (by decide)
  have X1 := X1 [a0, a1, some (.ref m), some (.pv (.int t)), some (.pv (.str x)), some (.pv (.str y)), b6, a7, a8, a9, a10] 4 st4 rfl
  have Y1 := Y1 [a0, a1, some (.ref m), some (.pv (.int t)), some (.pv (.str x)), some (.pv (.str y)), b6, a7, a8, a9, a10] 5 st4 rfl
  refine ⟨some (.pv (.str x)), some (.pv (.str y)), b6, st4, D3.trans d4, ?_⟩
  unfold l2_law
  show evSs _ _ _ (([a0, a1, some (.ref m), a3, a4, a5, a6, a7, a8, a9, a10] : Envr).set 3 (some (.pv (.int t)))) st = _
  simp only [jevw, C, A2, F, B2, asgT, setAll, e3, ad, forS, ok, e4, X1, X2, X3, Y1, Y2, Y3]
theorem l3_ok (c : Int) (a0 a1 a2 a3 a4 a5 a6 a7 a8 a9 a10 : Option SV) (st : Store) :
    ∃ b1 b2 b3 b4 b5 b6 b7 st', forBd (.nm 1) (evSs (callJ ds g 39) g l3_law) (.int c) [a0, a1, a2, a3, a4, a5, a6, a7, a8, a9, a10] st = .next [a0, b1, b2, b3, b4, b5, b6, b7, a8, a9, a10] st' := by
  obtain ⟨st1, w, _, e1⟩ := well_eq (g := g) dst.toHasDr 38 c 87 (by decide) (by decide) st
  have e1 : callJ ds g 39 120 [.pv (.int c), .pv (.int 87)] st = .ok (.ref st.length) st1 := e1
  obtain ⟨η', st2, ⟨w2, u3, u4, u5, u6, rfl⟩, e⟩ := loop_inv (body := forBd (.nm 3) (evSs (callJ ds g 39) g l2_law)) (fun η s => Well s st.length ∧ ∃ u3 u4 u5 u6, η = [a0, some (.pv (.int c)), some (.ref st.length), u3, u4, u5, u6, a7, a8, a9, a10]) (rngL 0 10) (η := [a0, some (.pv (.int c)), some (.ref st.length), a3, a4, a5, a6, a7, a8, a9, a10]) (st := st1)
    (fun x hx η s h => by
      obtain ⟨w, u3, u4, u5, u6, rfl⟩ := h
      obtain ⟨t, rfl⟩ : ∃ t, x = .int t := by
        unfold rngL at hx
        obtain ⟨i, _, rfl⟩ := List.mem_map.mp hx
        exact ⟨_, rfl⟩
      obtain ⟨b4, b5, b6, st', d, e⟩ := l2_ok t a0 (some (.pv (.int c))) u3 u4 u5 u6 a7 a8 a9 a10 w
      exact ⟨_, _, ⟨d.well w, _, _, _, _, rfl⟩, e⟩) ⟨w, _, _, _, _, rfl⟩
  obtain ⟨x, st3, hx, d3, e3⟩ := odd_eq 36 st.length w2
  obtain ⟨⟨vx, X1, X2, X3⟩, ⟨vy, Y1, Y2, Y3⟩⟩ := ev_oddL hx
  have X1 := X1 [a0, some (.pv (.int c)), some (.ref st.length), u3, u4, u5, u6, some (.pv x), a8, a9, a10] 7 st3 rfl
  have Y1 := Y1 [a0, some (.pv (.int c)), some (.ref st.length), u3, u4, u5, u6, some (.pv x), a8, a9, a10] 7 st3 rfl
  refine ⟨some (.pv (.int c)), some (.ref st.length), u3, u4, u5, u6, some (.pv x), st3, ?_⟩
  have ok : rngOk 10 = true := by decide
  have e3 : callJ ds g 39 136 [.ref st.length] st2 = .ok (.pv x) st3 := e3
  unfold l3_law
  show evSs _ _ _ (([a0, a1, a2, a3, a4, a5, a6, a7, a8, a9, a10] : Envr).set 1 (some (.pv (.int c)))) st = _
  simp only [jevw, e1, forS, ok, e, e3, X1, X2, X3, Y1, Y2, Y3]
theorem loop_l3 : ∀ (cs : List Int) (a0 : Option SV) (st : Store) (a1 a2 a3 a4 a5 a6 a7 a8 a9 a10 : Option SV),
    ∃ b1 b2 b3 b4 b5 b6 b7 st', loopJ (forBd (.nm 1) (evSs (callJ ds g 39) g l3_law)) (cs.map PyData.int) [a0, a1, a2, a3, a4, a5, a6, a7, a8, a9, a10] st = .next [a0, b1, b2, b3, b4, b5, b6, b7, a8, a9, a10] st'
  | [], a0, st, a1, a2, a3, a4, a5, a6, a7, a8, a9, a10 => ⟨_, _, _, _, _, _, _, _, rfl⟩
  | c :: cs, a0, st, a1, a2, a3, a4, a5, a6, a7, a8, a9, a10 => by
    obtain ⟨b1, b2, b3, b4, b5, b6, b7, st1, e1⟩ := l3_ok c a0 a1 a2 a3 a4 a5 a6 a7 a8 a9 a10 st
    obtain ⟨c1, c2, c3, c4, c5, c6, c7, st2, e2⟩ := loop_l3 cs a0 st1 b1 b2 b3 b4 b5 b6 b7 a8 a9 a10
    exact ⟨_, _, _, _, _, _, _, _, by rw [List.map_cons, loop_next e1]; exact e2⟩
/-! ### the rows at the end -/
def encR (p : Str × Int) : PV := .tuple [.str p.1, .int p.2]
theorem rowsS_ok (L : List (Str × Int)) (h : ∀ p ∈ L, Tx 1000 p.1 ∧ rdS p.1 = .inl p.2) (hl : L.length ≤ 1000) (a0 a1 a2 a3 a4 a5 a6 a7 a9 a10 : Option SV) (st : Store) :
    compF (slotF 9) (.tp [9, 10]) (J.valF (slotF 8)) (tst (cmpF .NotEq (lamwF 14 hsT none (callF (callJ ds g 39 73) (consF (slotF 9) nilF))) (slotF 10))) [9, 10] [a0, a1, a2, a3, a4, a5, a6, a7, some (.pv (.list (L.map encR))), a9, a10] st = .ok (.pv (.list [])) st := by
  rw [compF_typed L encR (fun _ => none) (by simp only [jevw, itemsV, opt]) (fun p hp => ?_) (by unfold line; omega)]
  · simp
  · obtain ⟨h1, h2⟩ := h p hp
    unfold encR
    rw [compB_tp2]
    have X := told_script 35 (η := [a0, a1, a2, a3, a4, a5, a6, a7, some (.pv (.list (L.map encR))), some (.pv (.str p.1)), some (.pv (.int p.2))]) (i := 9) rfl h1 (by decide) st
    rw [h2] at X
    have X : lamwF 14 hsT none (callF (callJ ds g 39 73) (consF (slotF 9) nilF)) [a0, a1, a2, a3, a4, a5, a6, a7, some (.pv (.list (L.map fun p => encR p))), some (.pv (.str p.1)), some (.pv (.int p.2))] st = .ok (.pv (.int p.2)) st := X
    show ((tst _) [a0, a1, a2, a3, a4, a5, a6, a7, some (.pv (.list (L.map fun p => encR p))), some (.pv (.str p.1)), some (.pv (.int p.2))] st).bind _ = _
    simp only [jevw, X]
theorem rowsF_ok (L : List (Str × Int)) (h : ∀ p ∈ L, Tx 1000 p.1 ∧ rdF p.1 = .inl p.2) (hl : L.length ≤ 1000) (a0 a1 a2 a3 a4 a5 a6 a7 a9 a10 : Option SV) (st : Store) :
    compF (slotF 9) (.tp [9, 10]) (J.valF (slotF 8)) (tst (cmpF .NotEq (lamwF 14 hsT none (callF (callJ ds g 39 77) (consF (slotF 9) nilF))) (slotF 10))) [9, 10] [a0, a1, a2, a3, a4, a5, a6, a7, some (.pv (.list (L.map encR))), a9, a10] st = .ok (.pv (.list [])) st := by
  rw [compF_typed L encR (fun _ => none) (by simp only [jevw, itemsV, opt]) (fun p hp => ?_) (by unfold line; omega)]
  · simp
  · obtain ⟨h1, h2⟩ := h p hp
    unfold encR
    rw [compB_tp2]
    have X := told_file 35 (η := [a0, a1, a2, a3, a4, a5, a6, a7, some (.pv (.list (L.map encR))), some (.pv (.str p.1)), some (.pv (.int p.2))]) (i := 9) rfl h1 (by decide) st
    rw [h2] at X
    have X : lamwF 14 hsT none (callF (callJ ds g 39 77) (consF (slotF 9) nilF)) [a0, a1, a2, a3, a4, a5, a6, a7, some (.pv (.list (L.map fun p => encR p))), some (.pv (.str p.1)), some (.pv (.int p.2))] st = .ok (.pv (.int p.2)) st := X
    show ((tst _) [a0, a1, a2, a3, a4, a5, a6, a7, some (.pv (.list (L.map fun p => encR p))), some (.pv (.str p.1)), some (.pv (.int p.2))] st).bind _ = _
    simp only [jevw, X]
def LS1 : List (Str × Int) := [(Txt.mul "drop k\n" 6 ++ "drop k", 8), ("set k a\nset k b\nset k c\nset k d\nset k e", 6), ("drop  k", 1), ("\n", 1), ("swap k a a", 1), ("drop k\n", 2), ("add k a", 1), ("drop k\nDROP k", 2), ("set k a end", 1)]
def LF1 : List (Str × Int) := [(Txt.mul "k=a\n" 40 ++ "k=a", 42), ("k=", 1), ("=a", 1), ("k=a=b", 1), ("##k=a", 1), ("# k=a", 1), ("k=a\n\nk=a", 2), ("ka", 1), ("k=a\n", 2)]
theorem five_no : scrS [["set", "k", "a"], ["set", "k", "b"], ["set", "k", "c"], ["set", "k", "d"], ["set", "k", "e"]] = false := by
  refine Bool.eq_false_iff.mpr fun h => ?_
  unfold scrS at h
  simp only [Bool.and_eq_true] at h
  have h3 := List.all_eq_true.mp h.2.2 "k" (keysS_in.mpr ⟨["set", "k", "a"], by simp, rfl⟩)
  have h3 := of_decide_eq_true h3
  have a1 : (sortS (namedS [["set", "k", "a"], ["set", "k", "b"], ["set", "k", "c"], ["set", "k", "d"], ["set", "k", "e"]] "k")).length = (onceL (namedS [["set", "k", "a"], ["set", "k", "b"], ["set", "k", "c"], ["set", "k", "d"], ["set", "k", "e"]] "k") []).length := List.length_mergeSort _
  rw [a1] at h3
  revert h3
  decide +kernel
theorem five_due : rdS ("set k a\nset k b\nset k c\nset k d\nset k e" : Str) = .inl 6 := by
  have e : scS [] (rowsT ("set k a\nset k b\nset k c\nset k d\nset k e" : Str)) = (true, ([["set", "k", "a"], ["set", "k", "b"], ["set", "k", "c"], ["set", "k", "d"], ["set", "k", "e"]] : List (List Str))) := by decide +kernel
  unfold rdS
  rw [e]
  show (if scrS _ = true then _ else _) = _
  rw [five_no]
  rfl
theorem tx_by {z : Str} (h : (fitS z && decide (z.length ≤ 1000)) = true) : Tx 1000 z := by
  simp only [Bool.and_eq_true, decide_eq_true_eq] at h
  exact h
theorem LS1_ok : ∀ p ∈ LS1, Tx 1000 p.1 ∧ rdS p.1 = .inl p.2 := by
  intro p hp
  simp only [LS1, List.mem_cons, List.not_mem_nil, or_false] at hp
  rcases hp with rfl | rfl | rfl | rfl | rfl | rfl | rfl | rfl | rfl
  · exact ⟨tx_by (by decide +kernel), by decide +kernel⟩
  · exact ⟨tx_by (by decide +kernel), five_due⟩
  all_goals exact ⟨tx_by (by decide +kernel), by decide +kernel⟩
theorem LF1_ok : ∀ p ∈ LF1, Tx 1000 p.1 ∧ rdF p.1 = .inl p.2 := by
  intro p hp
  simp only [LF1, List.mem_cons, List.not_mem_nil, or_false] at hp
  rcases hp with rfl | rfl | rfl | rfl | rfl | rfl | rfl | rfl | rfl
  all_goals exact ⟨tx_by (by decide +kernel), by decide +kernel⟩
theorem mul1 : mulV (.str ("drop k\n" : Str)) (.int 6) = some (.str (Txt.mul "drop k\n" 6)) := if_pos (by decide +kernel)
theorem mul2 : mulV (.str ("k=a\n" : Str)) (.int 40) = some (.str (Txt.mul "k=a\n" 40)) := if_pos (by decide +kernel)
theorem add1 : addV (.str (Txt.mul "drop k\n" 6)) (.str ("drop k" : Str)) = some (.str (Txt.mul "drop k\n" 6 ++ "drop k")) := add_strs (by decide +kernel)
theorem add2 : addV (.str (Txt.mul "k=a\n" 40)) (.str ("k=a" : Str)) = some (.str (Txt.mul "k=a\n" 40 ++ "k=a")) := add_strs (by decide +kernel)
theorem plain_law : ∀ ns : List Int, ns.length ≤ 63 → ∃ st, callJ D.ds D.g 40 155 [.pv (.list (ns.map PyData.int))] [] = .ok (.pv (.bool true)) st := by
  intro ns hn
  have ha : addV (.list [.int 0]) (.list (ns.map PyData.int)) = some (.list (([0] ++ ns).map PyData.int)) := add_lst (by simp; unfold line; omega)
  have hc : cutL (([0] ++ ns).map PyData.int) none (some 6) = (cutL ([0] ++ ns) none (some 6)).map PyData.int := by
    unfold cutL
    rw [List.length_map, List.map_take, List.map_drop]
  obtain ⟨b1, b2, b3, b4, b5, b6, b7, st1, e⟩ := loop_l3 (cutL ([0] ++ ns) none (some 6)) (some (.pv (.list (ns.map PyData.int)))) [] none none none none none none none none none none
  rw [← hc] at e
  show ∃ st, callJ ds g 40 155 _ _ = _
  have e : loopJ (forBd (.nm 1) (evSs (callJ ds g 39) g l3_law)) (cutL (PyData.int 0 :: List.map PyData.int ns) none (some 6)) [some (.pv (.list (List.map PyData.int ns))), none, none, none, none, none, none, none, none, none, none] [] = .next [some (.pv (.list (List.map PyData.int ns))), b1, b2, b3, b4, b5, b6, b7, none, none, none] st1 := e
  have a1 : ∀ xs ys : List PV, xs.length + ys.length ≤ 100 → addV (.list xs) (.list ys) = some (.list (xs ++ ys)) := fun xs ys h => add_lst (by unfold line; omega)
  have R1 := rowsS_ok LS1 LS1_ok (by decide) (some (.pv (.list (List.map PyData.int ns)))) b1 b2 b3 b4 b5 b6 b7 none none st1
  have R2 := fun x y => rowsF_ok LF1 LF1_ok (by decide) (some (.pv (.list (List.map PyData.int ns)))) b1 b2 b3 b4 b5 b6 b7 x y st1
  simp only [LS1, LF1, encR, List.map_cons, List.map_nil] at R1 R2
  rw [callJ_at (d := d_law) rfl rfl]
  unfold d_law b_law
  simp only [jevw, forS, itemsV, opt, ha, sli_lst, hc, e, mul1, add1, mul2, add2, a1, List.length_cons, List.length_nil, List.cons_append, List.nil_append, R1, R2]
  exact ⟨_, rfl⟩
end T
end
namespace T
open PySem PySem.Spec PyProof.Rows J
theorem ok : ∀ j ∈ D.dl, j.ok D.ci = true := List.all_eq_true.mp (show D.dl.all (fun j => j.ok D.ci) = true by decide +kernel)
theorem bi_is_label : DJ.bi j_is_label := fun _ _ _ _ _ _ us hl => match us, hl with | [_], _ => rfl
theorem bi_is_line : DJ.bi j_is_line := fun _ _ _ _ _ _ us hl => match us, hl with | [_], _ => rfl
theorem bi_is_file : DJ.bi j_is_file := fun _ _ _ _ _ _ us hl => match us, hl with | [_], _ => rfl
theorem bi_form_of : DJ.bi j_form_of := fun _ _ _ _ _ _ us hl => match us, hl with | [_], _ => rfl
theorem bi_is_step : DJ.bi j_is_step := fun _ _ _ _ _ _ us hl => match us, hl with | [_], _ => rfl
theorem bi_named_by : DJ.bi j_named_by := fun _ _ _ _ _ _ us hl => match us, hl with | [_, _], _ => rfl
theorem bi_keys_of : DJ.bi j_keys_of := fun _ _ _ _ _ _ us hl => match us, hl with | [_], _ => rfl
theorem bi_is_script : DJ.bi j_is_script := fun _ _ _ _ _ _ us hl => match us, hl with | [_], _ => rfl
theorem bi_rows_in : DJ.bi j_rows_in := fun _ _ _ _ _ _ us hl => match us, hl with | [_], _ => rfl
theorem bi_read_script : DJ.bi j_read_script := fun _ _ _ _ _ _ us hl => match us, hl with | [_], _ => rfl
theorem bi_line_in : DJ.bi j_line_in := fun _ _ _ _ _ _ us hl => match us, hl with | [_], _ => rfl
theorem bi_read_file : DJ.bi j_read_file := fun _ _ _ _ _ _ us hl => match us, hl with | [_], _ => rfl
theorem bi__law_well : DJ.bi j__law_well := fun _ _ _ _ _ _ us hl => match us, hl with | [_, _], _ => rfl
theorem bi__law_pull : DJ.bi j__law_pull := fun _ _ _ _ _ _ us hl => match us, hl with | [_, _], _ => rfl
theorem bi__law_out : DJ.bi j__law_out := fun _ _ _ _ _ _ us hl => match us, hl with | [_, _], _ => rfl
theorem bi__law_step : DJ.bi j__law_step := fun _ _ _ _ _ _ us hl => match us, hl with | [_, _], _ => rfl
theorem bi__law_script : DJ.bi j__law_script := fun _ _ _ _ _ _ us hl => match us, hl with | [_, _], _ => rfl
theorem bi__law_line : DJ.bi j__law_line := fun _ _ _ _ _ _ us hl => match us, hl with | [_, _], _ => rfl
theorem bi__law_file : DJ.bi j__law_file := fun _ _ _ _ _ _ us hl => match us, hl with | [_, _], _ => rfl
theorem bi__law_text : DJ.bi j__law_text := fun _ _ _ _ _ _ us hl => match us, hl with | [_], _ => rfl
theorem bi__law_file_text : DJ.bi j__law_file_text := fun _ _ _ _ _ _ us hl => match us, hl with | [_], _ => rfl
theorem bi__law_is_label : DJ.bi j__law_is_label := fun _ _ _ _ _ _ us hl => match us, hl with | [_], _ => rfl
theorem bi__law_is_line : DJ.bi j__law_is_line := fun _ _ _ _ _ _ us hl => match us, hl with | [_], _ => rfl
theorem bi__law_is_file : DJ.bi j__law_is_file := fun _ _ _ _ _ _ us hl => match us, hl with | [_], _ => rfl
theorem bi__law_is_step : DJ.bi j__law_is_step := fun _ _ _ _ _ _ us hl => match us, hl with | [_], _ => rfl
theorem bi__law_values_named : DJ.bi j__law_values_named := fun _ _ _ _ _ _ us hl => match us, hl with | [_, _], _ => rfl
theorem bi__law_is_script : DJ.bi j__law_is_script := fun _ _ _ _ _ _ us hl => match us, hl with | [_], _ => rfl
theorem bi__law_odd : DJ.bi j__law_odd := fun _ _ _ _ _ _ us hl => match us, hl with | [_], _ => rfl
theorem bi__law_line_of : DJ.bi j__law_line_of := fun _ _ _ _ _ _ us hl => match us, hl with | [_], _ => rfl
theorem bi__law_due : DJ.bi j__law_due := fun _ _ _ _ _ _ us hl => match us, hl with | [_, _], _ => rfl
theorem bi__law_spoilt : DJ.bi j__law_spoilt := fun _ _ _ _ _ _ us hl => match us, hl with | [_, _], _ => rfl
theorem bi_law : DJ.bi j_law := fun _ _ _ _ _ _ us hl => match us, hl with | [_], _ => rfl
theorem bi : ∀ j ∈ D.dl, j.bi := by
  intro j hj
  have hj : j ∈ [j_is_label, j_is_line, j_is_file, j_form_of, j_is_step, j_named_by, j_keys_of, j_is_script, j_rows_in, j_read_script, j_line_in, j_read_file, j__law_well, j__law_pull, j__law_out, j__law_step, j__law_script, j__law_line, j__law_file, j__law_is_label, j__law_is_line, j__law_is_file, j__law_values_named, j__law_is_step, j__law_is_script, j__law_odd, j__law_text, j__law_file_text, j__law_line_of, j__law_due, j__law_spoilt, j_law] := hj
  simp only [List.mem_cons, List.not_mem_nil, or_false] at hj
  rcases hj with rfl | rfl | rfl | rfl | rfl | rfl | rfl | rfl | rfl | rfl | rfl | rfl | rfl | rfl | rfl | rfl | rfl | rfl | rfl | rfl | rfl | rfl | rfl | rfl | rfl | rfl | rfl | rfl | rfl | rfl | rfl | rfl
  · exact bi_is_label
  · exact bi_is_line
  · exact bi_is_file
  · exact bi_form_of
  · exact bi_is_step
  · exact bi_named_by
  · exact bi_keys_of
  · exact bi_is_script
  · exact bi_rows_in
  · exact bi_read_script
  · exact bi_line_in
  · exact bi_read_file
  · exact bi__law_well
  · exact bi__law_pull
  · exact bi__law_out
  · exact bi__law_step
  · exact bi__law_script
  · exact bi__law_line
  · exact bi__law_file
  · exact bi__law_is_label
  · exact bi__law_is_line
  · exact bi__law_is_file
  · exact bi__law_values_named
  · exact bi__law_is_step
  · exact bi__law_is_script
  · exact bi__law_odd
  · exact bi__law_text
  · exact bi__law_file_text
  · exact bi__law_line_of
  · exact bi__law_due
  · exact bi__law_spoilt
  · exact bi_law
theorem wk : ∀ p ∈ D.wl, wordB D p = true := List.all_eq_true.mp (show D.wl.all (fun p => wordB D p) = true by decide +kernel)
theorem bi__law_told : DJ.bi j__law_told := fun _ _ _ _ _ _ us hl => match us, hl with | [_], _ => rfl
theorem bw : ∀ p ∈ D.wl, p.1.bi := by
  intro p hp
  have hp : p.1 ∈ [j__law_told] := List.mem_map.mpr ⟨p, hp, rfl⟩
  simp only [List.mem_cons, List.not_mem_nil, or_false] at hp
  rcases hp with hp
  · rw [hp]; exact bi__law_told
theorem xk : ∀ o ∈ D.ol, o.ok = true := List.all_eq_true.mp (show D.ol.all (fun o => o.ok) = true by decide +kernel)
theorem bx_WrongText : OxD.bi x_WrongText := fun _ _ _ _ _ _ us hl => match us, hl with | [_, _], _ => rfl
theorem bx : ∀ o ∈ D.ol, o.bi := by
  intro o ho
  have ho : o ∈ ([x_WrongText] : List OxD) := ho
  simp only [List.mem_cons, List.not_mem_nil, or_false] at ho
  rcases ho with rfl
  · exact bx_WrongText
end T
open PySem PySem.W PyProof.Rows
set_option maxHeartbeats 0 in
theorem PySem.Challenge.cw_lineseen_k15_spoilt_texts_holds : PySem.Challenge.rw_lineseen_k15_spoilt_texts.Holds := by
  w_on; o_law
  k_head; (case hw => w_witness2)
  k_fill
  refine J.walkJT (l := PySem.Challenge.rw_lineseen_k15_spoilt_texts) (t := T.D) (k := 40) (li := 155) (jl := T.j_law) (x := "_law_script_here") rfl rfl ⟨rfl, by decide, by decide⟩ rfl rfl rfl T.ok T.bi T.wk T.bw T.xk T.bx T.plain_law (fun w h Y => PySem.W.km_in_of Y) (fun w h Y => PySem.W.km_tabs_of Y) ?C ?B
  case B =>
    intro w
    exact (by kernel_rfl : T.D.lamB _ _ = true)
  case C =>
    intro w
    refine ⟨?_, ?_⟩
    · exact (by kernel_rfl : He.obsT T.D.fa T.D.fn T.D.ts _ = He.valT T.D.fn T.D.ts w)
    · exact (by kernel_rfl : T.D.more _ = true)
#print axioms PySem.Challenge.cw_lineseen_k15_spoilt_texts_holds

