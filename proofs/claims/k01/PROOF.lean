import PyProof.Rows.All
import HandS.ForExc
import HandS.ForMost
import HandS.IsInst
import HandS.TupAny
import HandS.TupMul
import HandS.Style
import HandS.Wide
import HandS.Deep
import HandS.CallSlots
import PySem.Challenge.RW_griddleflips_k01_flips_and_scripts
set_option Elab.async false
set_option linter.all false
set_option maxRecDepth 100000
set_option maxHeartbeats 2000000
/-! Data without a heap, and what it is in the abstract heap. -/
namespace GF
open PySem PySem.Spec PyProof.Rows L2

/-! ### data -/
inductive D where
  | non | bl (b : Bool) | int (i : Int) | str (s : Str)
  | tup (l : List D) | lst (l : List D)
  | scr (l : List Int)
  | fn (x : Str)
  | ty (n : String)
/-- what a name holds: data, or the k-th cell -/
inductive S where
  | d (d : D) | c (k : Nat)
inductive Cell where
  | lst (l : List D)
  | dead
abbrev Mu := List Cell
abbrev Rho := List (Option S)
/-- an exception: its class by name, its fields -/
structure Exn where
  cls : Str
  fs : List (Str × D)
inductive Out (α : Type) where
  | stk
  | ok (a : α) (m : Mu)
  | exc (x : Exn) (m : Mu)
def Out.bind {α β : Type} (o : Out α) (k : α → Mu → Out β) : Out β := match o with
  | .stk => .stk
  | .ok a m => k a m
  | .exc x m => .exc x m
theorem bind_ok {α β : Type} (a : α) (m : Mu) (k : α → Mu → Out β) : (Out.ok a m).bind k = k a m := rfl
theorem bind_stk {α β : Type} (k : α → Mu → Out β) : (Out.stk : Out α).bind k = .stk := rfl
theorem bind_exc {α β : Type} (x : Exn) (m : Mu) (k : α → Mu → Out β) : (Out.exc x m : Out α).bind k = .exc x m := rfl

section
variable (K : PySem.W.Frag) (mg : Str → Option Value)
mutual
inductive Is (F : Hp) : D → V → Prop
  | non : Is F .non .non
  | bl (b : Bool) : Is F (.bl b) (.bl b)
  | int (i : Int) : Is F (.int i) (.int i)
  | str (x : Str) : Is F (.str x) (.str x)
  | tup {a : Addr} {vs : List V} {l : List D} : SqT K F a vs → IsA F l vs → Is F (.tup l) (.ref a)
  | lst {a : Addr} {vs : List V} {l : List D} : F a = some (.lst vs) → IsA F l vs → Is F (.lst l) (.ref a)
  | scr {a : Addr} {l : List Int} : SqL K F a (l.map V.int) → Is F (.scr l) (.ref a)
  | fn {x : Str} {a : Addr} : mg x = some (.ref a) → Is F (.fn x) (.ref a)
  | ty (n : String) : Is F (.ty n) (.ty n)
inductive IsA (F : Hp) : List D → List V → Prop
  | nil : IsA F [] []
  | cons {d : D} {l : List D} {v : V} {vs : List V} : Is F d v → IsA F l vs → IsA F (d :: l) (v :: vs)
end
def CellIs (F : Hp) : Cell → Option HO → Prop
  | .lst l, o => ∃ vs, o = some (.lst vs) ∧ IsA K mg F l vs
  | .dead, o => o ≠ none
/-- where the cells stand; what is settled; what is held fast besides -/
structure Mc where
  al : List Addr
  fr : Hp
  fx : Hp
/-- the cells μ stand at m.al, apart from what is settled and what is held fast -/
structure Mem (m : Mc) (μ : Mu) (H : Hp) : Prop where
  sub : Same m.fr H
  fix : Same m.fx H
  dis : ∀ a o, m.fx a = some o → m.fr a = none ∧ a ∉ m.al
  len : m.al.length = μ.length
  nd : m.al.Nodup
  cell : ∀ (k : Nat) (a : Addr) (c : Cell), m.al[k]? = some a → μ[k]? = some c → CellIs K mg m.fr c (H a) ∧ (∀ l, c = .lst l → m.fr a = none)
def SIs (m : Mc) : S → V → Prop
  | .d d, v => Is K mg m.fr d v
  | .c k, v => ∃ a, m.al[k]? = some a ∧ v = .ref a
structure Ext (m m' : Mc) : Prop where
  pre : ∃ β, m'.al = m.al ++ β
  same : Same m.fr m'.fr
  fix : m'.fx = m.fx
structure RhoIs (m : Mc) (ρ : Rho) (σ : L2.St) : Prop where
  len : σ.length = ρ.length
  has : ∀ (i : Nat) (s : S), ρ[i]? = some (some s) → ∃ v, σ[i]? = some (some v) ∧ SIs K mg m s v
inductive SAll (m : Mc) : List S → List V → Prop
  | nil : SAll m [] []
  | cons {s : S} {l : List S} {v : V} {vs : List V} : SIs K mg m s v → SAll m l vs → SAll m (s :: l) (v :: vs)
def FsIs (F : Hp) : List (Str × D) → List (Str × V) → Prop
  | [], vs => vs = []
  | (x, d) :: r, vs => ∃ v q, vs = (x, v) :: q ∧ Is K mg F d v ∧ FsIs F r q
/-- how an exception lies -/
def ExnIs (F H : Hp) (x : Exn) (cls : Value) (d : Option Addr) : Prop :=
  ∃ C, mg x.cls = some (.ref C) ∧ cls = .ref C ∧ ((x.fs = [] ∧ d = none) ∨ (x.fs ≠ [] ∧ ∃ dd vs, d = some dd ∧ H dd = some (.xd vs) ∧ FsIs K mg F x.fs vs))
def wpE (m : Mc) (o : Out S) (Q : V → Hp → Prop) (E : XK) : Prop := match o with
  | .stk => False
  | .ok s μ => ∀ v H' m', Ext m m' → Mem K mg m' μ H' → SIs K mg m' s v → Q v H'
  | .exc x μ => ∀ cls d H' m', Ext m m' → Mem K mg m' μ H' → ExnIs K mg m'.fr H' x cls d → E cls d H'
def wpA (m : Mc) (o : Out (List S)) (Q : List V → Hp → Prop) (E : XK) : Prop := match o with
  | .stk => False
  | .ok s μ => ∀ v H' m', Ext m m' → Mem K mg m' μ H' → SAll K mg m' s v → Q v H'
  | .exc x μ => ∀ cls d H' m', Ext m m' → Mem K mg m' μ H' → ExnIs K mg m'.fr H' x cls d → E cls d H'
def wpB (m : Mc) (o : Out Bool) (Q : Bool → Hp → Prop) (E : XK) : Prop := match o with
  | .stk => False
  | .ok b μ => ∀ H' m', Ext m m' → Mem K mg m' μ H' → Q b H'
  | .exc x μ => ∀ cls d H' m', Ext m m' → Mem K mg m' μ H' → ExnIs K mg m'.fr H' x cls d → E cls d H'
end

section
variable {K : PySem.W.Frag} {mg : Str → Option Value} {m m' m1 : Mc} {F F' : Hp} {H H' : Hp} {μ : Mu}
theorem Ext.refl : Ext m m := ⟨⟨[], by simp⟩, Same.refl _, rfl⟩
theorem Ext.trans (a : Ext m m1) (b : Ext m1 m') : Ext m m' := by
  obtain ⟨β, e⟩ := a.pre
  obtain ⟨γ, e'⟩ := b.pre
  exact ⟨⟨β ++ γ, by rw [e', e]; simp⟩, a.same.trans b.same, b.fix.trans a.fix⟩
theorem Ext.get (a : Ext m m') {k : Nat} {x : Addr} (h : m.al[k]? = some x) : m'.al[k]? = some x := by
  obtain ⟨β, e⟩ := a.pre
  have hk : k < m.al.length := by
    rcases Nat.lt_or_ge k m.al.length with z | z
    · exact z
    · rw [List.getElem?_eq_none z] at h; cases h
  rw [e, List.getElem?_append_left hk]; exact h
theorem Same.sqt {a : Addr} {vs : List V} (e : Same F F') (h : SqT K F a vs) : SqT K F' a vs := by
  rcases h with (h | ⟨o, h⟩) | h
  · exact .inl (.inl (e _ _ h))
  · exact .inl (.inr ⟨o, e _ _ h⟩)
  · exact .inr h
mutual
theorem Is.mono (e : Same F F') : ∀ {d : D} {v : V}, Is K mg F d v → Is K mg F' d v
  | _, _, .non => .non
  | _, _, .bl b => .bl b
  | _, _, .int i => .int i
  | _, _, .str x => .str x
  | _, _, .tup h q => .tup (Same.sqt e h) (IsA.mono e q)
  | _, _, .lst h q => .lst (e _ _ h) (IsA.mono e q)
  | _, _, .scr h => .scr (e.seq h)
  | _, _, .fn h => .fn h
  | _, _, .ty n => .ty n
theorem IsA.mono (e : Same F F') : ∀ {l : List D} {vs : List V}, IsA K mg F l vs → IsA K mg F' l vs
  | _, _, .nil => .nil
  | _, _, .cons h q => .cons (Is.mono e h) (IsA.mono e q)
end
theorem SIs.mono (e : Ext m m') {s : S} {v : V} (h : SIs K mg m s v) : SIs K mg m' s v := by
  cases s with
  | d d => exact Is.mono e.same h
  | c k => obtain ⟨a, h1, h2⟩ := h; exact ⟨a, e.get h1, h2⟩
theorem SAll.mono (e : Ext m m') {l : List S} {vs : List V} (h : SAll K mg m l vs) : SAll K mg m' l vs := by
  induction h with
  | nil => exact .nil
  | cons a _ ih => exact .cons (a.mono e) ih
theorem SAll.length {l : List S} {vs : List V} (h : SAll K mg m l vs) : l.length = vs.length := by
  induction h with
  | nil => rfl
  | cons _ _ ih => simp [ih]
theorem RhoIs.mono (e : Ext m m') {ρ : Rho} {σ : L2.St} (h : RhoIs K mg m ρ σ) : RhoIs K mg m' ρ σ :=
  ⟨h.len, fun i s hi => by obtain ⟨v, h1, h2⟩ := h.has i s hi; exact ⟨v, h1, h2.mono e⟩⟩
theorem RhoIs.set {ρ : Rho} {σ : L2.St} (h : RhoIs K mg m ρ σ) (i : Nat) {s : S} {v : V} (r : SIs K mg m s v) : RhoIs K mg m (ρ.set i (some s)) (σ.set i (some v)) := by
  refine ⟨by rw [List.length_set, List.length_set]; exact h.len, fun j s' hj => ?_⟩
  by_cases e : i = j
  · subst e
    by_cases hl : i < ρ.length
    · rw [List.getElem?_set_self hl] at hj
      cases hj
      exact ⟨v, by rw [List.getElem?_set_self (by rw [h.len]; exact hl)], r⟩
    · rw [List.getElem?_eq_none (by rw [List.length_set]; omega)] at hj; cases hj
  · rw [List.getElem?_set_ne e] at hj
    obtain ⟨w, h1, h2⟩ := h.has j s' hj
    exact ⟨w, by rw [List.getElem?_set_ne e]; exact h1, h2⟩
/-- a name forgotten -/
theorem RhoIs.unset {ρ : Rho} {σ : L2.St} (h : RhoIs K mg m ρ σ) (i : Nat) : RhoIs K mg m (ρ.set i none) (σ.set i none) := by
  refine ⟨by rw [List.length_set, List.length_set]; exact h.len, fun j s' hj => ?_⟩
  by_cases e : i = j
  · subst e
    by_cases hl : i < ρ.length
    · rw [List.getElem?_set_self hl] at hj; cases hj
    · rw [List.getElem?_eq_none (by rw [List.length_set]; omega)] at hj; cases hj
  · rw [List.getElem?_set_ne e] at hj
    obtain ⟨w, h1, h2⟩ := h.has j s' hj
    exact ⟨w, by rw [List.getElem?_set_ne e]; exact h1, h2⟩
theorem IsA.length : ∀ {l : List D} {vs : List V}, IsA K mg F l vs → l.length = vs.length
  | _, _, .nil => rfl
  | _, _, .cons _ q => by simp [IsA.length q]
theorem IsA.get : ∀ {l : List D} {vs : List V} {i : Nat} {d : D}, IsA K mg F l vs → l[i]? = some d → ∃ v, vs[i]? = some v ∧ Is K mg F d v
  | _, _, _, _, .nil, e => by simp at e
  | _, _, 0, _, .cons r _, e => by simp at e; subst e; exact ⟨_, rfl, r⟩
  | _, _, i + 1, d, .cons _ t, e => by
    obtain ⟨u, h1, h2⟩ := IsA.get (i := i) (d := d) t (by simpa using e)
    exact ⟨u, by simpa using h1, h2⟩
theorem IsA.get' : ∀ {l : List D} {vs : List V} {i : Nat} {v : V}, IsA K mg F l vs → vs[i]? = some v → ∃ d, l[i]? = some d ∧ Is K mg F d v
  | _, _, _, _, .nil, e => by simp at e
  | _, _, 0, _, .cons r _, e => by simp at e; subst e; exact ⟨_, rfl, r⟩
  | _, _, i + 1, d, .cons _ t, e => by
    obtain ⟨u, h1, h2⟩ := IsA.get' (i := i) (v := d) t (by simpa using e)
    exact ⟨u, by simpa using h1, h2⟩
theorem IsA.append : ∀ {l m : List D} {vs ws : List V}, IsA K mg F l vs → IsA K mg F m ws → IsA K mg F (l ++ m) (vs ++ ws)
  | _, _, _, _, .nil, s => s
  | _, _, _, _, .cons r t, s => .cons r (IsA.append t s)
theorem IsA.take : ∀ {l : List D} {vs : List V} (n : Nat), IsA K mg F l vs → IsA K mg F (l.take n) (vs.take n)
  | _, _, 0, _ => .nil
  | _, _, _ + 1, .nil => .nil
  | _, _, n + 1, .cons r t => .cons r (IsA.take n t)
theorem IsA.drop : ∀ {l : List D} {vs : List V} (n : Nat), IsA K mg F l vs → IsA K mg F (l.drop n) (vs.drop n)
  | _, _, 0, r => r
  | _, _, _ + 1, .nil => .nil
  | _, _, n + 1, .cons _ t => IsA.drop n t
theorem IsA.set : ∀ {l : List D} {vs : List V} (i : Nat) {d : D} {v : V}, IsA K mg F l vs → Is K mg F d v → IsA K mg F (l.set i d) (vs.set i v)
  | _, _, _, _, _, .nil, _ => .nil
  | _, _, 0, _, _, .cons _ t, r => .cons r t
  | _, _, i + 1, _, _, .cons q t, r => .cons q (IsA.set i t r)
theorem IsA.reverse {l : List D} {vs : List V} (h : IsA K mg F l vs) : IsA K mg F l.reverse vs.reverse := by
  induction l generalizing vs with
  | nil => cases h; exact .nil
  | cons d l ih =>
    cases h with
    | cons r t => rw [List.reverse_cons, List.reverse_cons]; exact (ih t).append (.cons r .nil)
theorem IsA.rep {l : List D} {vs : List V} (h : IsA K mg F l vs) : ∀ k : Nat, IsA K mg F (List.replicate k l).flatten (List.replicate k vs).flatten
  | 0 => .nil
  | k + 1 => by rw [List.replicate_succ, List.replicate_succ, List.flatten_cons, List.flatten_cons]; exact h.append (IsA.rep h k)

/-! ### a new object that is settled at once; a cell changed -/
abbrev Mc.add (m : Mc) (p : Addr) (o : HO) : Mc := { m with fr := upd m.fr p o }
abbrev Mc.psh (m : Mc) (p : Addr) : Mc := { m with al := m.al ++ [p] }
theorem Mem.free (M : Mem K mg m μ H) {p : Addr} (h : H p = none) : m.fr p = none := M.sub.free h
theorem Mem.nin (M : Mem K mg m μ H) {p : Addr} (h : H p = none) : p ∉ m.al := fun hm => by
  obtain ⟨k, hk, e⟩ := List.mem_iff_getElem.mp hm
  have e1 : m.al[k]? = some p := by rw [List.getElem?_eq_getElem hk, e]
  have hk2 : k < μ.length := by rw [← M.len]; exact hk
  have e2 : μ[k]? = some μ[k] := List.getElem?_eq_getElem hk2
  have := (M.cell k p _ e1 e2).1
  rw [h] at this
  cases hc : μ[k] with
  | lst l => rw [hc] at this; obtain ⟨vs, z, _⟩ := this; cases z
  | dead => rw [hc] at this; exact this rfl
theorem CellIs.mono (e : Same F F') {c : Cell} {o : Option HO} (h : CellIs K mg F c o) : CellIs K mg F' c o := by
  cases c with
  | lst l => obtain ⟨vs, h1, h2⟩ := h; exact ⟨vs, h1, h2.mono e⟩
  | dead => exact h
theorem same_add {p : Addr} (h : F p = none) (o : HO) : Same F (upd F p o) := fun b x e => by rw [upd_ne (ne_of_none e h)]; exact e
theorem ext_add {p : Addr} (h : m.fr p = none) (o : HO) : Ext m (m.add p o) := ⟨⟨[], by simp⟩, same_add h o, rfl⟩
theorem Mem.new (M : Mem K mg m μ H) {p : Addr} (h : H p = none) (o : HO) : Mem K mg (m.add p o) μ (upd H p o) := by
  have nf := M.free h
  have sm := same_add nf o
  have nx : m.fx p = none := M.fix.free h
  refine ⟨fun b x e => ?_, fun b x e => by rw [upd_ne (ne_of_none e nx)]; exact M.fix _ _ e, fun b x e => ?_, M.len, M.nd, fun k a c h1 h2 => ?_⟩
  · by_cases hb : b = p
    · subst hb
      have e : upd m.fr b o b = some x := e
      rw [upd_same] at e ⊢; exact e
    · have e : upd m.fr p o b = some x := e
      rw [upd_ne hb] at e ⊢; exact M.sub _ _ e
  · obtain ⟨q1, q2⟩ := M.dis b x e
    exact ⟨by show upd m.fr p o b = none; rw [upd_ne (ne_of_none e nx)]; exact q1, q2⟩
  · have hn : a ≠ p := fun e => M.nin h (e ▸ List.mem_of_getElem? h1)
    obtain ⟨q1, q2⟩ := M.cell k a c h1 h2
    rw [upd_ne hn]
    exact ⟨q1.mono sm, fun l e => by show upd m.fr p o a = none; rw [upd_ne hn]; exact q2 l e⟩
/-- a new cell -/
theorem ext_psh {p : Addr} : Ext m (m.psh p) := ⟨⟨[p], rfl⟩, Same.refl _, rfl⟩
theorem Mem.push (M : Mem K mg m μ H) {p : Addr} (h : H p = none) {l : List D} {vs : List V} (r : IsA K mg m.fr l vs) : Mem K mg (m.psh p) (μ ++ [.lst l]) (upd H p (.lst vs)) := by
  have nf := M.free h
  have nx : m.fx p = none := M.fix.free h
  refine ⟨fun b x e => by rw [upd_ne (ne_of_none e nf)]; exact M.sub _ _ e, fun b x e => by rw [upd_ne (ne_of_none e nx)]; exact M.fix _ _ e, fun b x e => ?_, by show (m.al ++ [p]).length = _; rw [List.length_append, List.length_append, M.len]; rfl, ?_, fun k a c h1 h2 => ?_⟩
  · obtain ⟨q1, q2⟩ := M.dis b x e
    refine ⟨q1, fun hb => ?_⟩
    rcases List.mem_append.mp (show b ∈ m.al ++ [p] from hb) with z | z
    · exact q2 z
    · have : b = p := by simpa using z
      rw [this, nx] at e; cases e
  · show (m.al ++ [p]).Nodup
    rw [List.nodup_append]
    refine ⟨M.nd, by simp, fun a ha b hb e => ?_⟩
    have : b = p := by simpa using hb
    subst this; subst e
    exact M.nin h ha
  · have h1 : (m.al ++ [p])[k]? = some a := h1
    by_cases hk : k < m.al.length
    · rw [List.getElem?_append_left hk] at h1
      rw [List.getElem?_append_left (by rw [← M.len]; exact hk)] at h2
      have hn : a ≠ p := fun e => M.nin h (e ▸ List.mem_of_getElem? h1)
      rw [upd_ne hn]
      exact M.cell k a c h1 h2
    · rw [List.getElem?_append_right (by omega)] at h1
      rw [List.getElem?_append_right (by rw [← M.len]; omega)] at h2
      have hk0 : k - m.al.length = 0 := by
        cases hz : k - m.al.length with
        | zero => rfl
        | succ n => rw [hz] at h1; simp at h1
      rw [hk0] at h1
      rw [← M.len, hk0] at h2
      cases h1; cases h2
      rw [upd_same]
      exact ⟨⟨vs, rfl, r⟩, fun _ _ => nf⟩
theorem nodup_get {l : List Addr} (hN : l.Nodup) {i j : Nat} {x : Addr} (a : l[i]? = some x) (b : l[j]? = some x) : i = j := by
  obtain ⟨h1, e1⟩ := List.getElem?_eq_some_iff.mp a
  obtain ⟨h2, e2⟩ := List.getElem?_eq_some_iff.mp b
  exact (List.getElem_inj hN).mp (e1.trans e2.symm)
theorem get_lt {α : Type} {l : List α} {k : Nat} {x : α} (h : l[k]? = some x) : k < l.length := by
  rcases Nat.lt_or_ge k l.length with z | z
  · exact z
  · rw [List.getElem?_eq_none z] at h; cases h
/-- a cell is written -/
theorem Mem.put (M : Mem K mg m μ H) {k : Nat} {p : Addr} {l0 l : List D} {vs : List V} (h1 : m.al[k]? = some p) (h2 : μ[k]? = some (.lst l0)) (r : IsA K mg m.fr l vs) : Mem K mg m (μ.set k (.lst l)) (upd H p (.lst vs)) := by
  have nf := (M.cell k p _ h1 h2).2 l0 rfl
  refine ⟨fun b x e => by rw [upd_ne (ne_of_none e nf)]; exact M.sub _ _ e, fun b x e => ?_, M.dis, by rw [List.length_set]; exact M.len, M.nd, fun j a c g1 g2 => ?_⟩
  · rw [upd_ne (fun z => (M.dis b x e).2 (by rw [z]; exact List.mem_of_getElem? h1))]; exact M.fix _ _ e
  by_cases hj : k = j
  · subst hj
    have ea : a = p := Option.some.inj (g1.symm.trans h1)
    rw [List.getElem?_set_self (get_lt h2)] at g2
    cases g2
    rw [ea, upd_same]
    exact ⟨⟨vs, rfl, r⟩, fun _ _ => nf⟩
  · rw [List.getElem?_set_ne hj] at g2
    have hn : a ≠ p := fun e => hj (nodup_get M.nd h1 (e ▸ g1))
    rw [upd_ne hn]
    exact M.cell j a c g1 g2
theorem Mem.getC (M : Mem K mg m μ H) {k : Nat} {p : Addr} {l : List D} (h1 : m.al[k]? = some p) (h2 : μ[k]? = some (.lst l)) : ∃ vs, H p = some (.lst vs) ∧ IsA K mg m.fr l vs := (M.cell k p _ h1 h2).1
/-- a cell is settled -/
theorem Mem.freeze (M : Mem K mg m μ H) {k : Nat} {p : Addr} {l : List D} (h1 : m.al[k]? = some p) (h2 : μ[k]? = some (.lst l)) :
    ∃ m', Ext m m' ∧ Mem K mg m' (μ.set k .dead) H ∧ Is K mg m'.fr (.lst l) (.ref p) := by
  obtain ⟨vs, e, r⟩ := M.getC h1 h2
  have nf := (M.cell k p _ h1 h2).2 l rfl
  have sm := same_add nf (.lst vs)
  refine ⟨m.add p (.lst vs), ext_add nf _, ⟨fun b x e2 => ?_, M.fix, fun b x e2 => ?_, by rw [List.length_set]; exact M.len, M.nd, fun j a c g1 g2 => ?_⟩, .lst upd_same (r.mono sm)⟩
  · have e2 : upd m.fr p (.lst vs) b = some x := e2
    by_cases hb : b = p
    · subst hb; rw [upd_same] at e2; rw [← e2]; exact e
    · rw [upd_ne hb] at e2; exact M.sub _ _ e2
  · obtain ⟨q1, q2⟩ := M.dis b x e2
    exact ⟨by show upd m.fr p (.lst vs) b = none; rw [upd_ne (fun z => q2 (by rw [z]; exact List.mem_of_getElem? h1))]; exact q1, q2⟩
  · by_cases hj : k = j
    · subst hj
      have ea : a = p := Option.some.inj (g1.symm.trans h1)
      rw [List.getElem?_set_self (get_lt h2)] at g2
      cases g2
      rw [ea, e]
      exact ⟨fun z => (by cases z), fun l z => (by cases z)⟩
    · rw [List.getElem?_set_ne hj] at g2
      have hn : a ≠ p := fun e => hj (nodup_get M.nd h1 (e ▸ g1))
      obtain ⟨q1, q2⟩ := M.cell j a c g1 g2
      exact ⟨q1.mono sm, fun l e => by show upd m.fr p (.lst vs) a = none; rw [upd_ne hn]; exact q2 l e⟩
/-- one more object is held fast -/
abbrev Mc.hold (m : Mc) (p : Addr) (o : HO) : Mc := { m with fx := upd m.fx p o }
theorem Mem.hold (M : Mem K mg m μ H) {p : Addr} {o : HO} (h : H p = some o) (nf : m.fr p = none) (na : p ∉ m.al) : Mem K mg (m.hold p o) μ H :=
  ⟨M.sub, fun b x e => by
    have e : upd m.fx p o b = some x := e
    by_cases hb : b = p
    · subst hb; rw [upd_same] at e; rw [h, ← e]
    · rw [upd_ne hb] at e; exact M.fix _ _ e, fun b x e => by
    have e : upd m.fx p o b = some x := e
    by_cases hb : b = p
    · subst hb; exact ⟨nf, na⟩
    · rw [upd_ne hb] at e; exact M.dis _ _ e, M.len, M.nd, M.cell⟩
/-- an object that is neither settled nor a cell nor held is laid or changed -/
theorem Mem.side (M : Mem K mg m μ H) {p : Addr} {o : HO} (nf : m.fr p = none) (na : p ∉ m.al) (nx : m.fx p = none) : Mem K mg m μ (upd H p o) :=
  ⟨fun b x e => by rw [upd_ne (ne_of_none e nf)]; exact M.sub _ _ e, fun b x e => by rw [upd_ne (ne_of_none e nx)]; exact M.fix _ _ e, M.dis, M.len, M.nd, fun k a c h1 h2 => by
    rw [upd_ne (fun z => na (by rw [← z]; exact List.mem_of_getElem? h1))]; exact M.cell k a c h1 h2⟩
/-- .. is settled -/
theorem Mem.settle (M : Mem K mg m μ H) {p : Addr} {o : HO} (h : H p = some o) (nf : m.fr p = none) (na : p ∉ m.al) (nx : m.fx p = none) : Mem K mg (m.add p o) μ H := by
  have sm := same_add nf o
  refine ⟨fun b x e => ?_, M.fix, fun b x e => ?_, M.len, M.nd, fun k a c h1 h2 => ?_⟩
  · have e : upd m.fr p o b = some x := e
    by_cases hb : b = p
    · subst hb; rw [upd_same] at e; rw [h, ← e]
    · rw [upd_ne hb] at e; exact M.sub _ _ e
  · obtain ⟨q1, q2⟩ := M.dis b x e
    exact ⟨by show upd m.fr p o b = none; rw [upd_ne (ne_of_none e nx)]; exact q1, q2⟩
  · obtain ⟨q1, q2⟩ := M.cell k a c h1 h2
    exact ⟨q1.mono sm, fun l e => by
      show upd m.fr p o a = none
      rw [upd_ne (fun z => na (by rw [← z]; exact List.mem_of_getElem? h1))]; exact q2 l e⟩

/-! ### the wish under a wider memory -/
theorem wpE.mono {o : Out S} {Q : V → Hp → Prop} {E : XK} (e : Ext m m1) (h : wpE K mg m o Q E) : wpE K mg m1 o Q E := by
  cases o with
  | stk => exact h
  | ok s μ => exact fun v H' m' x => h v H' m' (e.trans x)
  | exc x μ => exact fun c d H' m' x => h c d H' m' (e.trans x)
theorem wpA.mono {o : Out (List S)} {Q : List V → Hp → Prop} {E : XK} (e : Ext m m1) (h : wpA K mg m o Q E) : wpA K mg m1 o Q E := by
  cases o with
  | stk => exact h
  | ok s μ => exact fun v H' m' x => h v H' m' (e.trans x)
  | exc x μ => exact fun c d H' m' x => h c d H' m' (e.trans x)
theorem wpB.mono {o : Out Bool} {Q : Bool → Hp → Prop} {E : XK} (e : Ext m m1) (h : wpB K mg m o Q E) : wpB K mg m1 o Q E := by
  cases o with
  | stk => exact h
  | ok s μ => exact fun H' m' x => h H' m' (e.trans x)
  | exc x μ => exact fun c d H' m' x => h c d H' m' (e.trans x)
end
end GF

set_option maxHeartbeats 2000000
/-! Judgements: a piece of syntax and its denotation over data; expressions. -/
namespace GF
open PySem PySem.Spec PyProof.Rows L2

abbrev FE := Rho → Mu → Out S
abbrev FB := Rho → Mu → Out Bool
abbrev FA := Rho → Mu → Out (List S)
abbrev FI := Rho → Mu → Out (List D)
inductive SO where
  | stk
  | nx (ρ : Rho) (μ : Mu)
  | rt (s : S) (μ : Mu)
  | bk (ρ : Rho) (μ : Mu)
  | ct (ρ : Rho) (μ : Mu)
  | exc (x : Exn) (ρ : Rho) (μ : Mu)
abbrev FS := Rho → Mu → SO

section
variable (K : PySem.W.Frag) (mg : Str → Option Value)
/-- an iterator that yields the items while what is settled stays -/
structure Walks (J : It) (items : List D) (F : Hp) : Prop where
  go : ∀ i H F2, Same F F2 → Same F2 H → i < items.length → J.go i H
  stop : ∀ i H F2, Same F F2 → Same F2 H → items.length ≤ i → J.stop i H
  yld : ∀ i H m2 μ x H' d, Same F m2.fr → Mem K mg m2 μ H → items[i]? = some d → J.yld i H x H' → ∃ m3, Ext m2 m3 ∧ Mem K mg m3 μ H' ∧ Is K mg m3.fr d x
def wpI (m : Mc) (o : Out (List D)) (R : It → Hp → Prop) (E : XK) : Prop := match o with
  | .stk => False
  | .ok l μ => ∀ J H' m', Ext m m' → Mem K mg m' μ H' → Walks K mg J l m'.fr → R J H'
  | .exc x μ => ∀ cls d H' m', Ext m m' → Mem K mg m' μ H' → ExnIs K mg m'.fr H' x cls d → E cls d H'
def wpS (m : Mc) (o : SO) (D : Ends) (W : WX) : Prop := match o with
  | .stk => False
  | .nx ρ μ => ∀ σ' H' m', Ext m m' → Mem K mg m' μ H' → RhoIs K mg m' ρ σ' → D.nx σ' H'
  | .rt s μ => ∀ v H' m', Ext m m' → Mem K mg m' μ H' → SIs K mg m' s v → D.rt v H'
  | .bk ρ μ => ∀ σ' H' m', Ext m m' → Mem K mg m' μ H' → RhoIs K mg m' ρ σ' → D.bk σ' H'
  | .ct ρ μ => ∀ σ' H' m', Ext m m' → Mem K mg m' μ H' → RhoIs K mg m' ρ σ' → D.ct σ' H'
  | .exc x ρ μ => ∀ cls d σ' H' m', Ext m m' → Mem K mg m' μ H' → RhoIs K mg m' ρ σ' → ExnIs K mg m'.fr H' x cls d → W cls d σ' H'
theorem wpS.mono {K : PySem.W.Frag} {mg : Str → Option Value} {m m1 : Mc} {o : SO} {D : Ends} {W : WX} (e : Ext m m1) (h : wpS K mg m o D W) : wpS K mg m1 o D W := by
  cases o with
  | stk => exact h
  | nx ρ μ => exact fun v H' m' x => h v H' m' (e.trans x)
  | rt s μ => exact fun v H' m' x => h v H' m' (e.trans x)
  | bk ρ μ => exact fun v H' m' x => h v H' m' (e.trans x)
  | ct ρ μ => exact fun v H' m' x => h v H' m' (e.trans x)
  | exc x ρ μ => exact fun c d s H' m' x => h c d s H' m' (e.trans x)
end

def Agree (js : List Nat) (σ σ' : L2.St) : Prop := σ'.length = σ.length ∧ ∀ i, i ∉ js → σ'[i]? = σ[i]?
section
variable (K : PySem.W.Frag) (mg : Str → Option Value) (W : WX)
/-- the denotations' own readings -/
def tE (f : FE) : TE := fun σ H Q => ∃ m ρ μ, Mem K mg m μ H ∧ RhoIs K mg m ρ σ ∧ wpE K mg m (f ρ μ) Q (fun c d H' => W c d σ H')
def tT (f : FB) : TT := fun σ H Q => ∃ m ρ μ, Mem K mg m μ H ∧ RhoIs K mg m ρ σ ∧ wpB K mg m (f ρ μ) Q (fun c d H' => W c d σ H')
def tAr (f : FA) : TA := fun σ H Q => ∃ m ρ μ, Mem K mg m μ H ∧ RhoIs K mg m ρ σ ∧ wpA K mg m (f ρ μ) Q (fun c d H' => W c d σ H')
def tI (f : FI) : TI := fun σ H R => ∃ m ρ μ, Mem K mg m μ H ∧ RhoIs K mg m ρ σ ∧ wpI K mg m (f ρ μ) R (fun c d H' => W c d σ H')
def tS (f : FS) : TS := fun D σ H => ∃ m ρ μ, Mem K mg m μ H ∧ RhoIs K mg m ρ σ ∧ wpS K mg m (f ρ μ) D W
def tG (js : List Nat) (t : D → Rho → Option Rho) : TG := fun v σ H Q => ∃ m μ ρ d ρ', Mem K mg m μ H ∧ RhoIs K mg m ρ σ ∧ Is K mg m.fr d v ∧ t d ρ = some ρ' ∧ ∀ σ', RhoIs K mg m ρ' σ' → Agree js σ σ' → Q σ' H
def tGs (js : List Nat) (t : List D → Rho → Option Rho) : TGs := fun vs σ H Q => ∃ m μ ρ ds ρ', Mem K mg m μ H ∧ RhoIs K mg m ρ σ ∧ IsA K mg m.fr ds vs ∧ t ds ρ = some ρ' ∧ ∀ σ', RhoIs K mg m ρ' σ' → Agree js σ σ' → Q σ' H
end
section
variable (X : Cx) (W : WX)
structure DE (e : Expr) (f : FE) : Prop where
  pe : PE X e (tE X.K X.mg W f)
structure DT (e : Expr) (f : FB) : Prop where
  pe : PT X e (tT X.K X.mg W f)
structure DW (e : Expr) (f : FB) : Prop where
  pe : PW X e (tT X.K X.mg W f)
structure DA (es : List Expr) (f : FA) : Prop where
  pe : PA X es (tAr X.K X.mg W f)
structure DI (tg e : Expr) (f : FI) : Prop where
  pe : PI X tg e (tI X.K X.mg W f)
structure DS (st : Stmt) (f : FS) : Prop where
  pe : PS X st (tS X.K X.mg W f)
structure DSs (sts : List Stmt) (f : FS) : Prop where
  pe : PSs X sts (tS X.K X.mg W f)
/-- a target: where an item goes -/
structure DG (js : List Nat) (tg : Expr) (t : D → Rho → Option Rho) : Prop where
  pe : PG X tg (tG X.K X.mg js t)
structure DGs (js : List Nat) (tgs : List Expr) (t : List D → Rho → Option Rho) : Prop where
  pe : PGs X tgs (tGs X.K X.mg js t)
end
section
variable {X : Cx} {W : WX} {e tg : Expr} {es : List Expr} {st : Stmt} {sts : List Stmt} {js : List Nat}
theorem DE.ex {f : FE} (h : DE X W e f) : ∃ t : TE, PE X e t ∧ ∀ σ H m ρ μ Q, Mem X.K X.mg m μ H → RhoIs X.K X.mg m ρ σ → wpE X.K X.mg m (f ρ μ) Q (fun c d H' => W c d σ H') → t σ H Q := ⟨_, h.pe, fun _ _ m ρ μ _ M r w => ⟨m, ρ, μ, M, r, w⟩⟩
theorem DE.in {f : FE} (h : ∃ t : TE, PE X e t ∧ ∀ σ H m ρ μ Q, Mem X.K X.mg m μ H → RhoIs X.K X.mg m ρ σ → wpE X.K X.mg m (f ρ μ) Q (fun c d H' => W c d σ H') → t σ H Q) : DE X W e f := by
  obtain ⟨t, p, q⟩ := h
  exact ⟨⟨fun pins s σ H Q I ⟨m, ρ, μ, M, r, w⟩ => p.run pins s σ H Q I (q σ H m ρ μ Q M r w)⟩⟩
theorem DT.ex {f : FB} (h : DT X W e f) : ∃ t : TT, PT X e t ∧ ∀ σ H m ρ μ Q, Mem X.K X.mg m μ H → RhoIs X.K X.mg m ρ σ → wpB X.K X.mg m (f ρ μ) Q (fun c d H' => W c d σ H') → t σ H Q := ⟨_, h.pe, fun _ _ m ρ μ _ M r w => ⟨m, ρ, μ, M, r, w⟩⟩
theorem DT.in {f : FB} (h : ∃ t : TT, PT X e t ∧ ∀ σ H m ρ μ Q, Mem X.K X.mg m μ H → RhoIs X.K X.mg m ρ σ → wpB X.K X.mg m (f ρ μ) Q (fun c d H' => W c d σ H') → t σ H Q) : DT X W e f := by
  obtain ⟨t, p, q⟩ := h
  exact ⟨⟨fun pins s σ H Q I ⟨m, ρ, μ, M, r, w⟩ => p.run pins s σ H Q I (q σ H m ρ μ Q M r w)⟩⟩
theorem DW.ex {f : FB} (h : DW X W e f) : ∃ t : TT, PW X e t ∧ ∀ σ H m ρ μ Q, Mem X.K X.mg m μ H → RhoIs X.K X.mg m ρ σ → wpB X.K X.mg m (f ρ μ) Q (fun c d H' => W c d σ H') → t σ H Q := ⟨_, h.pe, fun _ _ m ρ μ _ M r w => ⟨m, ρ, μ, M, r, w⟩⟩
theorem DW.in {f : FB} (h : ∃ t : TT, PW X e t ∧ ∀ σ H m ρ μ Q, Mem X.K X.mg m μ H → RhoIs X.K X.mg m ρ σ → wpB X.K X.mg m (f ρ μ) Q (fun c d H' => W c d σ H') → t σ H Q) : DW X W e f := by
  obtain ⟨t, p, q⟩ := h
  exact ⟨⟨fun wh pins s σ H Q I ⟨m, ρ, μ, M, r, w⟩ => p.run wh pins s σ H Q I (q σ H m ρ μ Q M r w)⟩⟩
theorem DA.ex {f : FA} (h : DA X W es f) : ∃ t : TA, PA X es t ∧ ∀ σ H m ρ μ Q, Mem X.K X.mg m μ H → RhoIs X.K X.mg m ρ σ → wpA X.K X.mg m (f ρ μ) Q (fun c d H' => W c d σ H') → t σ H Q := ⟨_, h.pe, fun _ _ m ρ μ _ M r w => ⟨m, ρ, μ, M, r, w⟩⟩
theorem DA.in {f : FA} (h : ∃ t : TA, PA X es t ∧ ∀ σ H m ρ μ Q, Mem X.K X.mg m μ H → RhoIs X.K X.mg m ρ σ → wpA X.K X.mg m (f ρ μ) Q (fun c d H' => W c d σ H') → t σ H Q) : DA X W es f := by
  obtain ⟨t, p, q⟩ := h
  exact ⟨⟨fun pos pins s σ H Q I ⟨m, ρ, μ, M, r, w⟩ => p.run pos pins s σ H Q I (q σ H m ρ μ Q M r w)⟩⟩
theorem DI.ex {f : FI} (h : DI X W tg e f) : ∃ t : TI, PI X tg e t ∧ ∀ σ H m ρ μ R, Mem X.K X.mg m μ H → RhoIs X.K X.mg m ρ σ → wpI X.K X.mg m (f ρ μ) R (fun c d H' => W c d σ H') → t σ H R := ⟨_, h.pe, fun _ _ m ρ μ _ M r w => ⟨m, ρ, μ, M, r, w⟩⟩
theorem DI.in {f : FI} (h : ∃ t : TI, PI X tg e t ∧ ∀ σ H m ρ μ R, Mem X.K X.mg m μ H → RhoIs X.K X.mg m ρ σ → wpI X.K X.mg m (f ρ μ) R (fun c d H' => W c d σ H') → t σ H R) : DI X W tg e f := by
  obtain ⟨t, p, q⟩ := h
  exact ⟨⟨fun pins s σ H Q I ⟨m, ρ, μ, M, r, w⟩ => p.run pins s σ H Q I (q σ H m ρ μ Q M r w)⟩⟩
theorem DS.ex {f : FS} (h : DS X W st f) : ∃ t : TS, PS X st t ∧ ∀ σ H m ρ μ D, Mem X.K X.mg m μ H → RhoIs X.K X.mg m ρ σ → wpS X.K X.mg m (f ρ μ) D W → t D σ H := ⟨_, h.pe, fun _ _ m ρ μ _ M r w => ⟨m, ρ, μ, M, r, w⟩⟩
theorem DS.in {f : FS} (h : ∃ t : TS, PS X st t ∧ ∀ σ H m ρ μ D, Mem X.K X.mg m μ H → RhoIs X.K X.mg m ρ σ → wpS X.K X.mg m (f ρ μ) D W → t D σ H) : DS X W st f := by
  obtain ⟨t, p, q⟩ := h
  exact ⟨⟨fun pins s σ H D I ⟨m, ρ, μ, M, r, w⟩ => p.run pins s σ H D I (q σ H m ρ μ D M r w)⟩⟩
theorem DSs.ex {f : FS} (h : DSs X W sts f) : ∃ t : TS, PSs X sts t ∧ ∀ σ H m ρ μ D, Mem X.K X.mg m μ H → RhoIs X.K X.mg m ρ σ → wpS X.K X.mg m (f ρ μ) D W → t D σ H := ⟨_, h.pe, fun _ _ m ρ μ _ M r w => ⟨m, ρ, μ, M, r, w⟩⟩
theorem DSs.in {f : FS} (h : ∃ t : TS, PSs X sts t ∧ ∀ σ H m ρ μ D, Mem X.K X.mg m μ H → RhoIs X.K X.mg m ρ σ → wpS X.K X.mg m (f ρ μ) D W → t D σ H) : DSs X W sts f := by
  obtain ⟨t, p, q⟩ := h
  exact ⟨⟨fun pins s σ H D I ⟨m, ρ, μ, M, r, w⟩ => p.run pins s σ H D I (q σ H m ρ μ D M r w)⟩⟩
end

/-! ### what can be read off a thing now -/
section
variable (K : PySem.W.Frag) (mg : Str → Option Value)
inductive Vw (F H : Hp) : D → V → Prop
  | of {d : D} {v : V} : Is K mg F d v → Vw F H d v
  | cell {a : Addr} {vs : List V} {l : List D} : H a = some (.lst vs) → IsA K mg F l vs → Vw F H (.lst l) (.ref a)
end
def isNon : D → Bool
  | .non => true
  | _ => false
def view : S → Mu → Option D
  | .d d, _ => some d
  | .c k, μ => match μ[k]? with
    | some (.lst l) => some (.lst l)
    | _ => none
section
variable {K : PySem.W.Frag} {mg : Str → Option Value} {m : Mc} {F H : Hp} {μ : Mu}
theorem view_ok {s : S} {d : D} {v : V} (M : Mem K mg m μ H) (h : view s μ = some d) (r : SIs K mg m s v) : Vw K mg m.fr H d v := by
  cases s with
  | d d' => cases h; exact .of r
  | c k =>
    obtain ⟨a, h1, rfl⟩ := r
    have h : (match μ[k]? with | some (.lst l) => some (D.lst l) | _ => none) = some d := h
    split at h
    · rename_i l hl
      cases h
      obtain ⟨vs, e, q⟩ := M.getC h1 hl
      exact .cell e q
    · cases h
theorem Vw.int {i : Int} {v : V} (h : Vw K mg F H (.int i) v) : v = .int i := by cases h with | of h => cases h; rfl
theorem Vw.bl {i : Bool} {v : V} (h : Vw K mg F H (.bl i) v) : v = .bl i := by cases h with | of h => cases h; rfl
theorem Vw.str {i : Str} {v : V} (h : Vw K mg F H (.str i) v) : v = .str i := by cases h with | of h => cases h; rfl
theorem Vw.non {v : V} (h : Vw K mg F H .non v) : v = .non := by cases h with | of h => cases h; rfl
theorem Vw.lst {l : List D} {v : V} (s : Same F H) (h : Vw K mg F H (.lst l) v) : ∃ a vs, v = .ref a ∧ H a = some (.lst vs) ∧ IsA K mg F l vs := by
  cases h with
  | of h => cases h with | lst h q => exact ⟨_, _, rfl, s _ _ h, q⟩
  | cell h q => exact ⟨_, _, rfl, h, q⟩
theorem Vw.tup {l : List D} {v : V} (s : Same F H) (h : Vw K mg F H (.tup l) v) : ∃ a vs, v = .ref a ∧ SqT K F a vs ∧ SqT K H a vs ∧ IsA K mg F l vs := by
  cases h with
  | of h => cases h with | tup h q => exact ⟨_, _, rfl, h, Same.sqt s h, q⟩
theorem Vw.scr {l : List Int} {v : V} (s : Same F H) (h : Vw K mg F H (.scr l) v) : ∃ a, v = .ref a ∧ SqL K H a (l.map V.int) := by
  cases h with
  | of h => cases h with | scr h => exact ⟨_, rfl, s.seq h⟩
theorem Vw.is {d : D} {v : V} (s : Same F H) (h : Vw K mg F H d v) : Is K mg H d v := by
  cases h with
  | of h => exact h.mono s
  | cell h q => exact .lst h (q.mono s)
theorem Vw.nn {d : D} {v : V} (h : Vw K mg F H d v) : decide (v = .non) = isNon d := by
  cases h with
  | of h => cases h <;> first | rfl | exact decide_eq_false (fun z => by cases z)
  | cell _ _ => exact decide_eq_false (fun z => by cases z)
end

/-! ### what an operation leaves: a value, all as it was; or a new object that is settled at once -/
section
variable (K : PySem.W.Frag) (mg : Str → Option Value)
/-- d at v is handed on in H', with F settled -/
def Gives (F H : Hp) (d : D) (Q : V → Hp → Prop) : Prop :=
  (∀ v, Is K mg F d v → Q v H) ∧ ∀ p o v, H p = none → Is K mg (upd F p o) d v → Q v (upd H p o)
end
section
variable {K : PySem.W.Frag} {mg : Str → Option Value} {m : Mc} {F H : Hp} {μ : Mu}
theorem gives_of {d : D} {Q : V → Hp → Prop} {E : XK} (M : Mem K mg m μ H) (h : wpE K mg m (.ok (.d d) μ) Q E) : Gives K mg m.fr H d Q :=
  ⟨fun v r => h v H m .refl M r, fun p o v hp r => h v _ (m.add p o) (ext_add (M.free hp) o) (M.new hp o) r⟩
end

/-! ### two-place operations -/
def op2 (g : D → D → Option D) (a b : S) (μ : Mu) : Out S := match view a μ, view b μ with
  | some x, some y => (match g x y with
    | some z => .ok (.d z) μ
    | none => .stk)
  | _, _ => .stk
/-- the rule r is met where g has an answer -/
def Snd2 (K : PySem.W.Frag) (mg : Str → Option Value) (r : R2) (g : D → D → Option D) : Prop :=
  ∀ F H x y a b z Q, Same F H → Vw K mg F H a x → Vw K mg F H b y → g a b = some z → Gives K mg F H z Q → r x y H Q
def eOp (g : D → D → Option D) (f1 f2 : FE) : FE := fun ρ μ => (f1 ρ μ).bind fun a μ1 => (f2 ρ μ1).bind fun b μ2 => op2 g a b μ2
theorem snd2_at {K : PySem.W.Frag} {mg : Str → Option Value} {r : R2} {g : D → D → Option D} (hs : Snd2 K mg r g) {m : Mc} {μ : Mu} {H : Hp} {a b : S} {x y : V} {Q : V → Hp → Prop} {E : XK} (M : Mem K mg m μ H) (ra : SIs K mg m a x) (rb : SIs K mg m b y)
    (h : wpE K mg m (op2 g a b μ) Q E) : r x y H Q := by
  unfold op2 at h
  split at h
  · rename_i u w h1 h2
    split at h
    · rename_i z hz
      exact hs m.fr H x y u w z Q M.sub (view_ok M h1 ra) (view_ok M h2 rb) hz (gives_of M h)
    · exact h.elim
  · exact h.elim
section
variable {X : Cx} {W : WX} {a b c : Expr} {f f1 f2 f3 : FE} {pos : Pos}
/-- two parts, one behind the other -/
theorem de_bin {ta tb : TE} (ha : ∀ σ H m ρ μ Q, Mem X.K X.mg m μ H → RhoIs X.K X.mg m ρ σ → wpE X.K X.mg m (f1 ρ μ) Q (fun c d H' => W c d σ H') → ta σ H Q)
    (hb : ∀ σ H m ρ μ Q, Mem X.K X.mg m μ H → RhoIs X.K X.mg m ρ σ → wpE X.K X.mg m (f2 ρ μ) Q (fun c d H' => W c d σ H') → tb σ H Q)
    {σ : L2.St} {H : Hp} {m : Mc} {ρ : Rho} {μ : Mu} {R : V → V → Hp → Prop} {k : S → S → Mu → Out S} {Q : V → Hp → Prop} (M : Mem X.K X.mg m μ H) (r : RhoIs X.K X.mg m ρ σ)
    (h : wpE X.K X.mg m ((f1 ρ μ).bind fun a μ1 => (f2 ρ μ1).bind fun b μ2 => k a b μ2) Q (fun c d H' => W c d σ H'))
    (hk : ∀ x y a b μ2 H2 m2, Ext m m2 → Mem X.K X.mg m2 μ2 H2 → SIs X.K X.mg m2 a x → SIs X.K X.mg m2 b y → wpE X.K X.mg m2 (k a b μ2) Q (fun c d H' => W c d σ H') → R x y H2) :
    ta σ H fun x H1 => tb σ H1 fun y H2 => R x y H2 := by
  refine ha σ H m ρ μ _ M r ?_
  cases e : f1 ρ μ with
  | stk => rw [e] at h; exact h
  | exc x μ' => rw [e] at h; exact h
  | ok s μ1 =>
    rw [e] at h
    intro x H1 m1 e1 M1 r1
    refine hb σ H1 m1 ρ μ1 _ M1 (r.mono e1) ?_
    have h : wpE X.K X.mg m ((f2 ρ μ1).bind fun b μ2 => k s b μ2) Q _ := h
    have h := h.mono e1
    cases e' : f2 ρ μ1 with
    | stk => rw [e'] at h; exact h
    | exc x μ' => rw [e'] at h; exact h
    | ok s2 μ2 =>
      rw [e'] at h
      intro y H2 m2 e2 M2 r2
      exact hk x y s s2 μ2 H2 m2 (e1.trans e2) M2 (r1.mono e2) r2 (wpE.mono e2 h)
theorem de_op {op : Operator} {r : R2} {g : D → D → Option D} (ho : OpR X (binaryOp op) r) (hs : Snd2 X.K X.mg r g) (ha : DE X W a f1) (hb : DE X W b f2) : DE X W (.BinOp a op b pos) (eOp g f1 f2) := by
  obtain ⟨ta, pa, qa⟩ := ha.ex
  obtain ⟨tb, pb, qb⟩ := hb.ex
  refine .in ⟨_, pe_op ho pa pb, fun σ H m ρ μ Q M rr h => ?_⟩
  exact de_bin (R := fun x y H2 => r x y H2 Q) qa qb M rr h fun x y a b μ2 H2 m2 _ M2 r1 r2 h2 => snd2_at hs M2 r1 r2 h2
theorem de_cmp {op : CmpOp} {r : R2} {g : D → D → Option D} (ho : OpR X (compareOp op) r) (hs : Snd2 X.K X.mg r g) (ha : DE X W a f1) (hb : DE X W b f2) (hm : behindInMarks op b = false) : DE X W (.Compare a [op] [b] pos) (eOp g f1 f2) := by
  obtain ⟨ta, pa, qa⟩ := ha.ex
  obtain ⟨tb, pb, qb⟩ := hb.ex
  refine .in ⟨_, pe_cmpR ho pa pb hm, fun σ H m ρ μ Q M rr h => ?_⟩
  exact de_bin (R := fun x y H2 => r x y H2 Q) qa qb M rr h fun x y a b μ2 H2 m2 _ M2 r1 r2 h2 => snd2_at hs M2 r1 r2 h2
theorem de_ix {r : R2} {g : D → D → Option D} (ho : IxR X r) (hs : Snd2 X.K X.mg r g) (ha : DE X W a f1) (hb : DE X W b f2) (hp : PlainIx b) : DE X W (.Subscript a b pos) (eOp g f1 f2) := by
  obtain ⟨ta, pa, qa⟩ := ha.ex
  obtain ⟨tb, pb, qb⟩ := hb.ex
  refine .in ⟨_, pe_ix ho pa pb hp, fun σ H m ρ μ Q M rr h => ?_⟩
  exact de_bin (R := fun x y H2 => r x y H2 Q) qa qb M rr h fun x y a b μ2 H2 m2 _ M2 r1 r2 h2 => snd2_at hs M2 r1 r2 h2
/-- a value that is a truth, as a test -/
def asB (s : S) (μ : Mu) : Out Bool := match s with
  | .d (.bl b) => .ok b μ
  | _ => .stk
def bT (f : FE) : FB := fun ρ μ => (f ρ μ).bind asB
theorem asB_wp {K : PySem.W.Frag} {mg : Str → Option Value} {m : Mc} {o : Out S} {Q : Bool → Hp → Prop} {E : XK} (h : wpB K mg m (o.bind asB) Q E) : wpE K mg m o (fun v H' => ∃ b, v = .bl b ∧ Q b H') E := by
  cases o with
  | stk => exact h
  | exc x μ => exact h
  | ok s μ =>
    intro v H' m' e M r
    have h : wpB K mg m (asB s μ) Q E := h
    cases s with
    | c k => exact h.elim
    | d d =>
      cases d with
      | bl b =>
        cases (show Is K mg m'.fr (.bl b) v from r)
        exact ⟨b, rfl, h H' m' e M⟩
      | _ => exact h.elim
theorem dt_val (ha : DE X W a f) (he : ∀ whole, isTrue a X.env whole = (do let v ← whole; standAt a.pos; holding [v] (truthy v)) := by intro _; rfl) : DT X W a (bT f) := by
  obtain ⟨ta, pa, qa⟩ := ha.ex
  exact .in ⟨_, pt_val pa he, fun σ H m ρ μ Q M rr h => qa σ H m ρ μ _ M rr (asB_wp h)⟩
theorem dt_cmp {op : CmpOp} {r : R2} {g : D → D → Option D} (ho : OpR X (compareOp op) r) (hs : Snd2 X.K X.mg r g) (ha : DE X W a f1) (hb : DE X W b f2) (hm : behindInMarks op b = false) : DT X W (.Compare a [op] [b] pos) (bT (eOp g f1 f2)) := by
  obtain ⟨ta, pa, qa⟩ := ha.ex
  obtain ⟨tb, pb, qb⟩ := hb.ex
  refine .in ⟨_, pt_cmpR ho pa pb hm, fun σ H m ρ μ Q M rr h => ?_⟩
  exact de_bin (R := fun x y H2 => r x y H2 fun v H' => ∃ b, v = .bl b ∧ Q b H') qa qb M rr (asB_wp h) fun x y a b μ2 H2 m2 _ M2 r1 r2 h2 => snd2_at hs M2 r1 r2 h2
/-- a op b op' c -/
def eChain (g g' : D → D → Option D) (f1 f2 f3 : FE) : FE := fun ρ μ => (f1 ρ μ).bind fun a μ1 => (f2 ρ μ1).bind fun b μ2 => (op2 g a b μ2).bind fun z μ3 => (asB z μ3).bind fun k μ3 =>
  if k = true then (f3 ρ μ3).bind fun c μ4 => op2 g' b c μ4 else .ok (.d (.bl false)) μ3
theorem chain_wp {r r' : R2} {g g' : D → D → Option D} (hs : Snd2 X.K X.mg r g) (hs' : Snd2 X.K X.mg r' g') {ta tb tc : TE}
    (qa : ∀ σ H m ρ μ Q, Mem X.K X.mg m μ H → RhoIs X.K X.mg m ρ σ → wpE X.K X.mg m (f1 ρ μ) Q (fun c d H' => W c d σ H') → ta σ H Q)
    (qb : ∀ σ H m ρ μ Q, Mem X.K X.mg m μ H → RhoIs X.K X.mg m ρ σ → wpE X.K X.mg m (f2 ρ μ) Q (fun c d H' => W c d σ H') → tb σ H Q)
    (qc : ∀ σ H m ρ μ Q, Mem X.K X.mg m μ H → RhoIs X.K X.mg m ρ σ → wpE X.K X.mg m (f3 ρ μ) Q (fun c d H' => W c d σ H') → tc σ H Q)
    {σ : L2.St} {H : Hp} {m : Mc} {ρ : Rho} {μ : Mu} {Q : V → Hp → Prop} (M : Mem X.K X.mg m μ H) (rr : RhoIs X.K X.mg m ρ σ) (h : wpE X.K X.mg m (eChain g g' f1 f2 f3 ρ μ) Q (fun c d H' => W c d σ H')) : tChain r r' ta tb tc σ H Q := by
  refine de_bin (k := fun a b μ2 => (op2 g a b μ2).bind fun z μ3 => (asB z μ3).bind fun k μ3 => if k = true then (f3 ρ μ3).bind fun c μ4 => op2 g' b c μ4 else .ok (.d (.bl false)) μ3) qa qb M rr h fun x y a b μ2 H2 m2 e2 M2 r1 r2 h2 => ?_
  refine snd2_at hs (E := fun c d H' => W c d σ H') M2 r1 r2 ?_
  cases e : op2 g a b μ2 with
  | stk => rw [e] at h2; exact h2
  | exc x μ' => rw [e] at h2; exact h2
  | ok z μ3 =>
    rw [e] at h2
    intro v H3 m3 e3 M3 r3
    have h2 : wpE X.K X.mg m2 ((asB z μ3).bind fun k μ3 => if k = true then (f3 ρ μ3).bind fun c μ4 => op2 g' b c μ4 else .ok (.d (.bl false)) μ3) Q (fun c d H' => W c d σ H') := h2
    cases e' : asB z μ3 with
    | stk => rw [e'] at h2; exact h2.elim
    | exc x μ' => unfold asB at e'; split at e' <;> cases e'
    | ok k μ4 =>
      unfold asB at e'
      split at e'
      · rename_i b'
        cases e'
        cases (show Is X.K X.mg m3.fr (.bl k) v from r3)
        refine ⟨k, rfl, ?_⟩
        have h2 : wpE X.K X.mg m2 (if k = true then (f3 ρ μ3).bind fun c μ4 => op2 g' b c μ4 else .ok (.d (.bl false)) μ3) Q (fun c d H' => W c d σ H') := h2
        have h2 := h2.mono e3
        cases k with
        | false => exact iteF (h2 (.bl false) H3 m3 .refl M3 (.bl false))
        | true =>
          refine iteT (qc σ H3 m3 ρ μ3 _ M3 (rr.mono (e2.trans e3)) ?_)
          have h2 : wpE X.K X.mg m3 ((f3 ρ μ3).bind fun c μ4 => op2 g' b c μ4) Q (fun c d H' => W c d σ H') := h2
          cases e4 : f3 ρ μ3 with
          | stk => rw [e4] at h2; exact h2
          | exc x μ' => rw [e4] at h2; exact h2
          | ok s μ4 =>
            rw [e4] at h2
            intro w' H4 m4 e4 M4 r4
            exact snd2_at hs' M4 ((r2.mono e3).mono e4) r4 (h2.mono e4)
      · cases e'
theorem de_chain {op op' : CmpOp} {r r' : R2} {g g' : D → D → Option D} (ho : OpR X (compareOp op) r) (hs : Snd2 X.K X.mg r g) (ho' : OpR X (compareOp op') r') (hs' : Snd2 X.K X.mg r' g') (ha : DE X W a f1) (hb : DE X W b f2) (hc : DE X W c f3)
    (hm : lastMarks [op, op'] [b, c] = false := by with_unfolding_all rfl) : DE X W (.Compare a [op, op'] [b, c] pos) (eChain g g' f1 f2 f3) := by
  obtain ⟨ta, pa, qa⟩ := ha.ex
  obtain ⟨tb, pb, qb⟩ := hb.ex
  obtain ⟨tc, pc, qc⟩ := hc.ex
  exact .in ⟨_, pe_chain ho ho' pa pb pc hm, fun σ H m ρ μ Q M rr h => chain_wp hs hs' qa qb qc M rr h⟩
theorem dt_chain {op op' : CmpOp} {r r' : R2} {g g' : D → D → Option D} (ho : OpR X (compareOp op) r) (hs : Snd2 X.K X.mg r g) (ho' : OpR X (compareOp op') r') (hs' : Snd2 X.K X.mg r' g') (ha : DE X W a f1) (hb : DE X W b f2) (hc : DE X W c f3)
    (hm : lastMarks [op, op'] [b, c] = false := by with_unfolding_all rfl) : DT X W (.Compare a [op, op'] [b, c] pos) (bT (eChain g g' f1 f2 f3)) := by
  obtain ⟨ta, pa, qa⟩ := ha.ex
  obtain ⟨tb, pb, qb⟩ := hb.ex
  obtain ⟨tc, pc, qc⟩ := hc.ex
  exact .in ⟨_, pt_chain ho ho' pa pb pc hm, fun σ H m ρ μ Q M rr h => chain_wp hs hs' qa qb qc M rr (asB_wp h)⟩
end

/-! ### names and constants -/
def eV (i : Nat) : FE := fun ρ μ => match ρ[i]? with
  | some (some s) => .ok s μ
  | _ => .stk
def eC (d : D) : FE := fun _ μ => .ok (.d d) μ
section
variable {X : Cx} {W : WX} {a b c : Expr} {f f1 f2 f3 : FE} {fb fb2 : FB} {pos : Pos} {rest : List Expr}
theorem de_v (i : Nat) {x : Str} (hN : X.N[i]? = some x := by rfl) (hv : Vis X.env.scope x := by first | exact Or.inl rfl | exact Or.inr (Or.inl rfl) | exact Or.inr (Or.inr rfl)) (hd : (x == ("__debug__" : Str)) = false := by decide)
    (hcd : (x == ("__classdict__" : Str)) = false := by decide) : DE X W (.Name x pos) (eV i) := by
  refine .in ⟨_, pe_var hN hv hd hcd, fun σ H m ρ μ Q M rr h => ?_⟩
  unfold eV at h
  split at h
  · rename_i s hs
    obtain ⟨v, h1, h2⟩ := rr.has i s hs
    exact ⟨v, h1, h v H m .refl M h2⟩
  · exact h.elim
theorem de_int {i : Int} {j : Nat} : DE X W (.Constant (.int i) j pos) (eC (.int i)) := .in ⟨_, pe_int, fun σ H m ρ μ Q M rr h => h _ H m .refl M (.int i)⟩
theorem de_bl {i : Bool} {j : Nat} : DE X W (.Constant (.bool i) j pos) (eC (.bl i)) := .in ⟨_, pe_bl, fun σ H m ρ μ Q M rr h => h _ H m .refl M (.bl i)⟩
theorem de_non {j : Nat} : DE X W (.Constant .none j pos) (eC .non) := .in ⟨_, pe_non, fun σ H m ρ μ Q M rr h => h _ H m .refl M .non⟩
theorem de_str {x : Str} {j : Nat} : DE X W (.Constant (.str x) j pos) (eC (.str x)) := .in ⟨_, pe_str, fun σ H m ρ μ Q M rr h => h _ H m .refl M (.str x)⟩
/-- a name of the module -/
theorem de_glob {x : Str} {v : V} {u : Value} {d : D} (hm : X.mg x = some u) (r : RelV v u) (hi : ∀ F, Is X.K X.mg F d v) (hg : Gl X x := by rfl) (hd : (x == ("__debug__" : Str)) = false := by decide) : DE X W (.Name x pos) (eC d) :=
  .in ⟨_, pe_glob hg hm r hd, fun σ H m ρ μ Q M rr h => h _ H m .refl M (hi _)⟩
theorem de_fn {x : Str} {a : Addr} (hm : X.mg x = some (.ref a)) (hg : Gl X x := by rfl) (hd : (x == ("__debug__" : Str)) = false := by decide) : DE X W (.Name x pos) (eC (.fn x)) :=
  de_glob (v := .ref a) hm rfl (fun _ => .fn hm) hg hd

/-! ### tests -/
def bNot (f : FB) : FB := fun ρ μ => (f ρ μ).bind fun b μ => .ok (!b) μ
def bAnd (f g : FB) : FB := fun ρ μ => (f ρ μ).bind fun b μ1 => if b = true then g ρ μ1 else .ok false μ1
def bOr (f g : FB) : FB := fun ρ μ => (f ρ μ).bind fun b μ1 => if b = true then .ok true μ1 else g ρ μ1
theorem wpB_bind {K : PySem.W.Frag} {mg : Str → Option Value} {m : Mc} {o : Out Bool} {k : Bool → Mu → Out Bool} {Q Q' : Bool → Hp → Prop} {E : XK} (h : wpB K mg m (o.bind k) Q E)
    (hk : ∀ b μ H' m', Ext m m' → Mem K mg m' μ H' → wpB K mg m' (k b μ) Q E → Q' b H') : wpB K mg m o Q' E := by
  cases o with
  | stk => exact h
  | exc x μ => exact h
  | ok b μ => exact fun H' m' e M => hk b μ H' m' e M (wpB.mono (o := k b μ) e h)
theorem dt_not (ha : DT X W a fb) : DT X W (.UnaryOp .Not a pos) (bNot fb) := by
  obtain ⟨ta, pa, qa⟩ := ha.ex
  refine .in ⟨_, pt_not pa, fun σ H m ρ μ Q M rr h => qa σ H m ρ μ _ M rr (wpB_bind h fun b μ H' m' e M' h' => h' H' m' .refl M')⟩
theorem dw_and1 (ha : DT X W a fb) : DW X W (.BoolOp .And [a] pos) fb := by
  obtain ⟨ta, pa, qa⟩ := ha.ex
  exact .in ⟨_, pw_and1 pa, qa⟩
theorem dw_or1 (ha : DT X W a fb) : DW X W (.BoolOp .Or [a] pos) fb := by
  obtain ⟨ta, pa, qa⟩ := ha.ex
  exact .in ⟨_, pw_or1 pa, qa⟩
theorem dw_and (ha : DT X W a fb) (hb : DW X W (.BoolOp .And (b :: rest) pos) fb2) : DW X W (.BoolOp .And (a :: b :: rest) pos) (bAnd fb fb2) := by
  obtain ⟨ta, pa, qa⟩ := ha.ex
  obtain ⟨tb, pb, qb⟩ := hb.ex
  refine .in ⟨_, pw_and pa pb, fun σ H m ρ μ Q M rr h => qa σ H m ρ μ _ M rr (wpB_bind h fun b μ H' m' e M' h' => ?_)⟩
  cases b with
  | true => exact iteT (qb σ H' m' ρ μ Q M' (rr.mono e) h')
  | false => exact iteF (h' H' m' .refl M')
theorem dw_or (ha : DT X W a fb) (hb : DW X W (.BoolOp .Or (b :: rest) pos) fb2) : DW X W (.BoolOp .Or (a :: b :: rest) pos) (bOr fb fb2) := by
  obtain ⟨ta, pa, qa⟩ := ha.ex
  obtain ⟨tb, pb, qb⟩ := hb.ex
  refine .in ⟨_, pw_or pa pb, fun σ H m ρ μ Q M rr h => qa σ H m ρ μ _ M rr (wpB_bind h fun b μ H' m' e M' h' => ?_)⟩
  cases b with
  | true => exact iteT (h' H' m' .refl M')
  | false => exact iteF (qb σ H' m' ρ μ Q M' (rr.mono e) h')
theorem dt_w (h : DW X W a fb) : DT X W a fb := by
  obtain ⟨ta, pa, qa⟩ := h.ex
  exact .in ⟨_, pa.pt, qa⟩
/-! ### .. as values -/
def eAnd (f g : FE) : FE := fun ρ μ => (f ρ μ).bind fun s μ1 => (asB s μ1).bind fun b μ1 => if b = true then g ρ μ1 else .ok (.d (.bl false)) μ1
def eOr (f g : FE) : FE := fun ρ μ => (f ρ μ).bind fun s μ1 => (asB s μ1).bind fun b μ1 => if b = true then .ok (.d (.bl true)) μ1 else g ρ μ1
def eNot (f : FE) : FE := fun ρ μ => (f ρ μ).bind fun s μ1 => (asB s μ1).bind fun b μ1 => .ok (.d (.bl (!b))) μ1
theorem wpE_asB {K : PySem.W.Frag} {mg : Str → Option Value} {m : Mc} {o : Out S} {k : Bool → Mu → Out S} {Q : V → Hp → Prop} {Q' : Bool → Hp → Prop} {E : XK} (h : wpE K mg m (o.bind fun s μ => (asB s μ).bind k) Q E)
    (hk : ∀ b μ H' m', Ext m m' → Mem K mg m' μ H' → wpE K mg m' (k b μ) Q E → Q' b H') : wpE K mg m o (fun x H' => ∃ c, x = .bl c ∧ Q' c H') E := by
  cases o with
  | stk => exact h
  | exc x μ => exact h
  | ok s μ =>
    intro v H' m' e M r
    have h : wpE K mg m ((asB s μ).bind k) Q E := h
    cases e' : asB s μ with
    | stk => rw [e'] at h; exact h.elim
    | exc x μ' => unfold asB at e'; split at e' <;> cases e'
    | ok b μ4 =>
      rw [e'] at h
      unfold asB at e'
      split at e'
      · cases e'
        cases (show Is K mg m'.fr (.bl b) v from r)
        exact ⟨b, rfl, hk b μ H' m' e M (wpE.mono (o := k b μ) e h)⟩
      · cases e'
theorem de_one {op : BoolOp} (ha : DE X W a f) : DE X W (.BoolOp op [a] pos) f := by
  obtain ⟨ta, pa, qa⟩ := ha.ex
  exact .in ⟨_, pe_one pa, qa⟩
theorem de_and (ha : DE X W a f1) (hb : DE X W (.BoolOp .And (b :: rest) pos) f2) : DE X W (.BoolOp .And (a :: b :: rest) pos) (eAnd f1 f2) := by
  obtain ⟨ta, pa, qa⟩ := ha.ex
  obtain ⟨tb, pb, qb⟩ := hb.ex
  refine .in ⟨_, pe_and pa pb, fun σ H m ρ μ Q M rr h => qa σ H m ρ μ _ M rr (wpE_asB h fun b μ H' m' e M' h' => ?_)⟩
  cases b with
  | true => exact iteT (qb σ H' m' ρ μ Q M' (rr.mono e) h')
  | false => exact iteF (h' _ H' m' .refl M' (.bl false))
theorem de_or (ha : DE X W a f1) (hb : DE X W (.BoolOp .Or (b :: rest) pos) f2) : DE X W (.BoolOp .Or (a :: b :: rest) pos) (eOr f1 f2) := by
  obtain ⟨ta, pa, qa⟩ := ha.ex
  obtain ⟨tb, pb, qb⟩ := hb.ex
  refine .in ⟨_, pe_or pa pb, fun σ H m ρ μ Q M rr h => qa σ H m ρ μ _ M rr (wpE_asB h fun b μ H' m' e M' h' => ?_)⟩
  cases b with
  | true => exact iteT (h' _ H' m' .refl M' (.bl true))
  | false => exact iteF (qb σ H' m' ρ μ Q M' (rr.mono e) h')
theorem de_not (ha : DE X W a f) : DE X W (.UnaryOp .Not a pos) (eNot f) := by
  obtain ⟨ta, pa, qa⟩ := ha.ex
  exact .in ⟨_, pe_not pa, fun σ H m ρ μ Q M rr h => qa σ H m ρ μ _ M rr (wpE_asB (k := fun b μ1 => .ok (.d (.bl (!b))) μ1) h fun b μ H' m' e M' h' => h' _ H' m' .refl M' (.bl (!b)))⟩
def eIf (t : FB) (f g : FE) : FE := fun ρ μ => (t ρ μ).bind fun b μ1 => if b = true then f ρ μ1 else g ρ μ1
theorem wpE_bindB {K : PySem.W.Frag} {mg : Str → Option Value} {m : Mc} {o : Out Bool} {k : Bool → Mu → Out S} {Q : V → Hp → Prop} {Q' : Bool → Hp → Prop} {E : XK} (h : wpE K mg m (o.bind k) Q E)
    (hk : ∀ b μ H' m', Ext m m' → Mem K mg m' μ H' → wpE K mg m' (k b μ) Q E → Q' b H') : wpB K mg m o Q' E := by
  cases o with
  | stk => exact h
  | exc x μ => exact h
  | ok b μ => exact fun H' m' e M => hk b μ H' m' e M (wpE.mono (o := k b μ) e h)
theorem de_if (hc : DT X W c fb) (ha : DE X W a f1) (hb : DE X W b f2) : DE X W (.IfExp c a b pos) (eIf fb f1 f2) := by
  obtain ⟨tc, pc, qc⟩ := hc.ex
  obtain ⟨ta, pa, qa⟩ := ha.ex
  obtain ⟨tb, pb, qb⟩ := hb.ex
  refine .in ⟨_, pe_ifExp pc pa pb, fun σ H m ρ μ Q M rr h => qc σ H m ρ μ _ M rr (wpE_bindB h fun b μ H' m' e M' h' => ?_)⟩
  cases b with
  | true => exact iteT (qa σ H' m' ρ μ Q M' (rr.mono e) h')
  | false => exact iteF (qb σ H' m' ρ μ Q M' (rr.mono e) h')
/-! ### one-place operations -/
def op1 (g : D → Option D) (a : S) (μ : Mu) : Out S := match view a μ with
  | some x => (match g x with
    | some z => .ok (.d z) μ
    | none => .stk)
  | _ => .stk
def eUn (g : D → Option D) (f : FE) : FE := fun ρ μ => (f ρ μ).bind fun s μ1 => op1 g s μ1
def Snd1 (K : PySem.W.Frag) (mg : Str → Option Value) (r : V → Hp → VK → Prop) (g : D → Option D) : Prop :=
  ∀ F H x a z Q, Same F H → Vw K mg F H a x → g a = some z → Gives K mg F H z Q → r x H Q
theorem wpE_bind {K : PySem.W.Frag} {mg : Str → Option Value} {m : Mc} {o : Out S} {k : S → Mu → Out S} {Q Q' : V → Hp → Prop} {E : XK} (h : wpE K mg m (o.bind k) Q E)
    (hk : ∀ s v μ H' m', Ext m m' → Mem K mg m' μ H' → SIs K mg m' s v → wpE K mg m' (k s μ) Q E → Q' v H') : wpE K mg m o Q' E := by
  cases o with
  | stk => exact h
  | exc x μ => exact h
  | ok b μ => exact fun v H' m' e M r => hk b v μ H' m' e M r (wpE.mono (o := k b μ) e h)
theorem snd1_at {K : PySem.W.Frag} {mg : Str → Option Value} {r : V → Hp → VK → Prop} {g : D → Option D} (hs : Snd1 K mg r g) {m : Mc} {μ : Mu} {H : Hp} {a : S} {x : V} {Q : V → Hp → Prop} {E : XK} (M : Mem K mg m μ H) (ra : SIs K mg m a x)
    (h : wpE K mg m (op1 g a μ) Q E) : r x H Q := by
  unfold op1 at h
  split at h
  · rename_i u h1
    split at h
    · rename_i z hz
      exact hs m.fr H x u z Q M.sub (view_ok M h1 ra) hz (gives_of M h)
    · exact h.elim
  · exact h.elim
theorem de_un {op : UnaryOp} {r : V → Hp → VK → Prop} {g : D → Option D} (ho : UnR X (unaryOp op) r) (hs : Snd1 X.K X.mg r g) (ha : DE X W a f) : DE X W (.UnaryOp op a pos) (eUn g f) := by
  obtain ⟨ta, pa, qa⟩ := ha.ex
  exact .in ⟨_, pe_un ho pa, fun σ H m ρ μ Q M rr h => qa σ H m ρ μ _ M rr (wpE_bind h fun s v μ H' m' e M' r' h' => snd1_at hs M' r' h')⟩
end
end GF

set_option maxHeartbeats 2000000
/-! Operations by data. -/
namespace GF
open PySem PySem.Spec PyProof.Rows L2

def cap : Nat := 1000000
theorem cap_line {n : Nat} (h : n ≤ cap) : n ≤ sizeLine := by rw [sizeLine_eq]; unfold cap at h; omega

/-! ### tuple * int, all of it -/
theorem tuple_mul_same (l : Addr) (items : Array Value) (n : Nat) (dd : Option Addr) (sl : Array (Option Value)) (x : Int) (u : Tok) (c0 : (decide (x < -(2 ^ 63)) || decide (x ≥ 2 ^ 63)) = false) (c1 : (items.isEmpty || x == 1) = true) :
    Meets (Builtin.«tuple.__mul__» ⟨[.ref l, .int x u], []⟩) (fun _ R s => s.heap.get? l = some { cls := .type "tuple", dict := dd, data := .seq items n, slots := sl } ∧ R (.ok (.ret (Value.ref l))) s) :=
  .of_wp fun prog w A R s h => by
    obtain ⟨hp, g, d, tk, os⟩ := s
    obtain ⟨hl, h⟩ := h
    have f1 := AutoSeq1.idx_int
    wp_walk using wpAny_loadPart' hl
    repeat (first
      | (refine wpAny_ite_false (decide_eq_false (by rw [c0]; exact Bool.false_ne_true)) ?_; wp_walk using wpAny_loadPart' hl)
      | (refine wpAny_ite_true (decide_eq_true c1) ?_; wp_walk using wpAny_loadPart' hl))
    exact ⟨_, rfl, h⟩
theorem tuple_mul_none (l : Addr) (items : Array Value) (n : Nat) (dd : Option Addr) (sl : Array (Option Value)) (x : Int) (u : Tok) (c0 : (decide (x < -(2 ^ 63)) || decide (x ≥ 2 ^ 63)) = false) (c1 : (items.isEmpty || x == 1) = false) (c2 : (decide (x ≤ 0) || items.isEmpty) = true) :
    Meets (Builtin.«tuple.__mul__» ⟨[.ref l, .int x u], []⟩) (fun _ R s => s.heap.get? l = some { cls := .type "tuple", dict := dd, data := .seq items n, slots := sl } ∧
      R (.ok (.ret (Value.ref s.heap.objs.size))) { s with heap := s.heap.push { cls := Value.type "tuple", data := Data.seq #[] }, toks := s.toks }) :=
  .of_wp fun prog w A R s h => by
    obtain ⟨hp, g, d, tk, os⟩ := s
    obtain ⟨hl, h⟩ := h
    have f1 := AutoSeq1.idx_int
    wp_walk using wpAny_loadPart' hl
    repeat (first
      | (refine wpAny_ite_false (decide_eq_false (by rw [c0]; exact Bool.false_ne_true)) ?_; wp_walk using wpAny_loadPart' hl)
      | (refine wpAny_ite_false (decide_eq_false (by rw [c1]; exact Bool.false_ne_true)) ?_; wp_walk using wpAny_loadPart' hl)
      | (refine wpAny_ite_true (decide_eq_true c2) ?_; wp_walk using wpAny_loadPart' hl))
    exact ⟨_, rfl, h⟩

section
variable {X : Cx}
/-- t * k, k up to a thousand -/
def rRepA (K : PySem.W.Frag) : R2 := fun x y H Q => ∃ l k xs, x = .ref l ∧ y = .int k ∧ SqT K H l xs ∧ k ≤ 1000 ∧ xs.length ≤ 1000 ∧ -(2 ^ 63) ≤ k ∧
  ((xs = [] ∨ k = 1) → Q (.ref l) H) ∧ (xs ≠ [] → k ≤ 0 → ∀ p, H p = none → Q (.ref p) (upd H p (.tup []))) ∧ (xs ≠ [] → 2 ≤ k → ∀ p, H p = none → Q (.ref p) (upd H p (.tup (List.replicate k.toNat xs).flatten)))
theorem op_repA : OpR X (binaryOp .Mult) (rRepA X.K) := by
  intro pins s σ H x y v u Q I rx ry h
  obtain ⟨l, k, xs, rfl, rfl, hT, h1, hz, h0, q1, q2, q3⟩ := h
  by_cases big : xs ≠ [] ∧ 2 ≤ k
  · exact op_repT pins s σ H _ _ v u Q I rx ry ⟨l, k, xs, rfl, rfl, hT, big.1, big.2, h1, hz, q3 big.1 big.2⟩
  · cases rx
    obtain ⟨t, rfl⟩ := ry
    obtain ⟨its, r, ⟨⟨cls, dd, data, sl⟩, ho, hc, n, hd⟩, hs⟩ := I.tuple hT
    simp only at hc hd
    subst hc hd
    have hle : its.length = xs.length := r.length.symm
    have c0 : (decide (k < -(2 ^ 63)) || decide (k ≥ 2 ^ 63)) = false := by
      rw [decide_eq_false (by omega), decide_eq_false (by omega)] <;> rfl
    have road : ∀ {R : Value → Shared → Prop} {Pm : World → (Result → Shared → Prop) → Shared → Prop}, True := fun {_ _} => trivial
    by_cases c1 : (its.toArray.isEmpty || k == 1) = true
    · refine wpAny_binaryOp_repeat_ref (T := "tuple") (U := "int") (by decide) ⟨_, ho, rfl⟩ (fun s' => typeIs_int s' k t) noFill_tuple_mul F.fills_int_mul F.slot_int_rmul repeat_tuple F.slot_int_index.lookup
        (call_meets F.slot_int_rmul (typeIs_int s k t) F.entry_int_rmul (F.args_int_rmul_2 _ _) (int_rmul_tuple k t l its.toArray n dd sl)
          ⟨ho, rfl, ⟨_, ho, rfl⟩, call_meets F.slot_tuple_mul ⟨_, ho, rfl⟩ F.entry_tuple_mul (F.args_tuple_mul_2 _ _) (tuple_mul_same l its.toArray n dd sl k t c0 c1) ⟨ho, ?_⟩⟩)
      refine ⟨.ref l, H, I, rfl, q1 ?_⟩
      rw [Bool.or_eq_true] at c1
      rcases c1 with z | z
      · refine .inl ?_
        cases its with
        | nil => exact List.eq_nil_of_length_eq_zero hle.symm
        | cons a b => simp at z
      · exact .inr (by simpa using z)
    · have c1 : (its.toArray.isEmpty || k == 1) = false := by simpa using c1
      have hi : its.toArray.isEmpty = false := (Bool.or_eq_false_iff.mp c1).1
      have hk1 : k ≠ 1 := fun z => by
        have := (Bool.or_eq_false_iff.mp c1).2
        rw [z] at this
        simp at this
      have hx : xs ≠ [] := fun z => by
        rw [z] at hle
        cases its with
        | nil => simp at hi
        | cons a b => simp at hle
      have hk : k ≤ 0 := by
        have : ¬ 2 ≤ k := fun z => big ⟨hx, z⟩
        omega
      have c2 : (decide (k ≤ 0) || its.toArray.isEmpty) = true := by rw [decide_eq_true hk]; rfl
      refine wpAny_binaryOp_repeat_ref (T := "tuple") (U := "int") (by decide) ⟨_, ho, rfl⟩ (fun s' => typeIs_int s' k t) noFill_tuple_mul F.fills_int_mul F.slot_int_rmul repeat_tuple F.slot_int_index.lookup
        (call_meets F.slot_int_rmul (typeIs_int s k t) F.entry_int_rmul (F.args_int_rmul_2 _ _) (int_rmul_tuple k t l its.toArray n dd sl)
          ⟨ho, rfl, ⟨_, ho, rfl⟩, call_meets F.slot_tuple_mul ⟨_, ho, rfl⟩ F.entry_tuple_mul (F.args_tuple_mul_2 _ _) (tuple_mul_none l its.toArray n dd sl k t c0 c1 c2) ⟨ho, ?_⟩⟩)
      refine ⟨.ref s.heap.objs.size, _, I.laid (t' := s.toks) (o := .tup []) (fun b ob q => Heap.get?_push_of_some _ q) (Nat.le_refl _) ?_, rfl, q2 hx hk _ (I.hok.fresh (Nat.le_refl _))⟩
      exact ⟨Nat.zero_le _, [], .nil, ⟨_, Heap.get?_push_size _ rfl, rfl, _, rfl⟩⟩
end

/-! ### + -/
def addD : D → D → Option D
  | .int i, .int j => some (.int (i + j))
  | .str a, .str b => if a.length + b.length ≤ cap then some (.str (a ++ b)) else none
  | .tup a, .tup b => if a.length + b.length ≤ cap then some (.tup (a ++ b)) else none
  | .lst a, .lst b => if a.length + b.length ≤ cap then some (.lst (a ++ b)) else none
  | _, _ => none
section
variable {X : Cx} {K : PySem.W.Frag} {mg : Str → Option Value}
abbrev rAddA (K : PySem.W.Frag) : R2 := fun x y H Q => rI0 (fun i j => .int (i + j)) x y H Q ∨ (∃ i j, x = .str i ∧ y = .str j ∧ i.length + j.length ≤ sizeLine ∧ Q (.str (i ++ j)) H) ∨ rCatA K x y H Q ∨ rCat x y H Q
theorem op_addA : OpR X (binaryOp .Add) (rAddA X.K) := op_add.or (op_add_str.or (op_catA.or op_cat))
theorem len2 {F : Hp} {l l' : List D} {vs vs' : List V} (a : IsA K mg F l vs) (b : IsA K mg F l' vs') (h : l.length + l'.length ≤ cap) : vs.length + vs'.length ≤ sizeLine := by
  rw [← a.length, ← b.length]; exact cap_line h
theorem snd_add : Snd2 K mg (rAddA K) addD := by
  intro F H x y a b z Q sm ra rb hg G
  unfold addD at hg
  split at hg
  · cases hg; exact .inl ⟨_, _, ra.int, rb.int, G.1 _ (.int _)⟩
  · split at hg
    · rename_i hc
      cases hg
      exact .inr (.inl ⟨_, _, ra.str, rb.str, cap_line hc, G.1 _ (.str _)⟩)
    · cases hg
  · split at hg
    · rename_i a b hc
      cases hg
      obtain ⟨p, vs, rfl, tF, tH, ia⟩ := ra.tup sm
      obtain ⟨q, ws, rfl, uF, uH, ib⟩ := rb.tup sm
      refine .inr (.inr (.inl ⟨p, q, vs, ws, rfl, rfl, tH, uH, len2 ia ib hc, fun e => ?_, fun _ e => ?_, fun _ _ p' hp => ?_⟩))
      · subst e
        have := ia.length
        have : a = [] := List.eq_nil_of_length_eq_zero this
        subst this
        exact G.1 _ (.tup uF ib)
      · subst e
        have := ib.length
        have : b = [] := List.eq_nil_of_length_eq_zero this
        subst this
        rw [List.append_nil] at G
        exact G.1 _ (.tup tF ia)
      · have sm' := same_add (sm.free hp) (.tup (vs ++ ws))
        exact G.2 p' _ _ hp (.tup (SqT.of upd_same) ((ia.mono sm').append (ib.mono sm')))
    · cases hg
  · split at hg
    · rename_i a b hc
      cases hg
      obtain ⟨p, vs, rfl, tH, ia⟩ := ra.lst sm
      obtain ⟨q, ws, rfl, uH, ib⟩ := rb.lst sm
      refine .inr (.inr (.inr ⟨p, q, vs, ws, rfl, rfl, tH, uH, len2 ia ib hc, fun p' hp => ?_⟩))
      have sm' := same_add (sm.free hp) (.lst (vs ++ ws))
      exact G.2 p' _ _ hp (.lst upd_same ((ia.mono sm').append (ib.mono sm')))
    · cases hg
  · cases hg
/-! ### - // % ** -/
def subD : D → D → Option D
  | .int i, .int j => some (.int (i - j))
  | _, _ => none
theorem snd_sub : Snd2 K mg (rI0 fun i j => .int (i - j)) subD := by
  intro F H x y a b z Q sm ra rb hg G
  unfold subD at hg
  split at hg
  · cases hg; exact ⟨_, _, ra.int, rb.int, G.1 _ (.int _)⟩
  · cases hg
def fdivD : D → D → Option D
  | .int i, .int j => if 0 < j ∧ j.natAbs.log2 < 9000 then some (.int (i / j)) else none
  | _, _ => none
theorem snd_fdiv : Snd2 K mg (rI CDivW fun i j => .int (i / j)) fdivD := by
  intro F H x y a b z Q sm ra rb hg G
  unfold fdivD at hg
  split at hg
  · split at hg
    · rename_i hc
      cases hg; exact ⟨_, _, ra.int, rb.int, hc, G.1 _ (.int _)⟩
    · cases hg
  · cases hg
def modD : D → D → Option D
  | .int i, .int j => if 0 < j then some (.int (i % j)) else none
  | _, _ => none
theorem snd_mod : Snd2 K mg (rI (fun _ j => 0 < j) fun i j => .int (i % j)) modD := by
  intro F H x y a b z Q sm ra rb hg G
  unfold modD at hg
  split at hg
  · split at hg
    · rename_i hc
      cases hg; exact ⟨_, _, ra.int, rb.int, hc, G.1 _ (.int _)⟩
    · cases hg
  · cases hg
def powD : D → D → Option D
  | .int i, .int j => if 0 ≤ j ∧ j ≤ 1000000 ∧ i.natAbs < 2 ^ 64 then some (.int (i ^ j.toNat)) else none
  | _, _ => none
theorem snd_pow : Snd2 K mg (rI CPow fun i j => .int (i ^ j.toNat)) powD := by
  intro F H x y a b z Q sm ra rb hg G
  unfold powD at hg
  split at hg
  · split at hg
    · rename_i hc
      cases hg; exact ⟨_, _, ra.int, rb.int, hc, G.1 _ (.int _)⟩
    · cases hg
  · cases hg
/-! ### * -/
def mulOk (i j : Int) : Bool := (decide (-(2 ^ 64) < i) && decide (i < 2 ^ 64)) || (decide (-(2 ^ 64) < j) && decide (j < 2 ^ 64)) || decide (i.natAbs.log2 + j.natAbs.log2 < 1000000)
def mulD : D → D → Option D
  | .int i, .int j => if mulOk i j = true then some (.int (i * j)) else none
  | .lst a, .int j => if j ≤ 1000000 ∧ -1000000 ≤ j ∧ a.length * j.toNat ≤ cap then some (.lst (List.replicate j.toNat a).flatten) else none
  | .tup a, .int j => if j ≤ 1000 ∧ -1000 ≤ j ∧ a.length ≤ 1000 then some (.tup (List.replicate j.toNat a).flatten) else none
  | _, _ => none
abbrev rMulA (K : PySem.W.Frag) : R2 := fun x y H Q => rI CMul (fun i j => .int (i * j)) x y H Q ∨ rI CMulW (fun i j => .int (i * j)) x y H Q ∨ rRep x y H Q ∨ rRepA K x y H Q
theorem op_mulA : OpR X (binaryOp .Mult) (rMulA X.K) := op_mul.or (op_mulW.or (op_rep.or op_repA))
theorem snd_mul : Snd2 K mg (rMulA K) mulD := by
  intro F H x y a b z Q sm ra rb hg G
  unfold mulD at hg
  split at hg
  · rename_i i j
    split at hg
    · rename_i hc
      cases hg
      unfold mulOk at hc
      simp only [Bool.or_eq_true, Bool.and_eq_true, decide_eq_true_eq] at hc
      rcases hc with hc | hc
      · exact .inl ⟨_, _, ra.int, rb.int, hc, G.1 _ (.int _)⟩
      · exact .inr (.inl ⟨_, _, ra.int, rb.int, hc, G.1 _ (.int _)⟩)
    · cases hg
  · split at hg
    · rename_i a j hc
      cases hg
      obtain ⟨p, vs, rfl, tH, ia⟩ := ra.lst sm
      refine .inr (.inr (.inl ⟨p, j, vs, rfl, rb.int, tH, by omega, by omega, by rw [← ia.length]; exact cap_line hc.2.2, fun p' hp => ?_⟩))
      have sm' := same_add (sm.free hp) (.lst (List.replicate j.toNat vs).flatten)
      exact G.2 p' _ _ hp (.lst upd_same ((ia.mono sm').rep j.toNat))
    · cases hg
  · split at hg
    · rename_i a j hc
      cases hg
      obtain ⟨p, vs, rfl, tF, tH, ia⟩ := ra.tup sm
      refine .inr (.inr (.inr ⟨p, j, vs, rfl, rb.int, tH, hc.1, by rw [← ia.length]; exact hc.2.2, by omega, fun e => ?_, fun _ e p' hp => ?_, fun _ _ p' hp => ?_⟩))
      · rcases e with e | e
        · subst e
          have := ia.length
          have e2 : a = [] := List.eq_nil_of_length_eq_zero this
          subst e2
          refine G.1 _ (.tup tF ?_)
          have : (List.replicate j.toNat ([] : List D)).flatten = [] := by simp
          rw [this]; exact .nil
        · subst e
          refine G.1 _ (.tup tF ?_)
          have : (List.replicate (1 : Int).toNat a).flatten = a := by simp
          rw [this]; exact ia
      · have e0 : j.toNat = 0 := by omega
        refine G.2 p' _ _ hp (.tup (SqT.of upd_same) ?_)
        rw [e0]; exact .nil
      · have sm' := same_add (sm.free hp) (.tup (List.replicate j.toNat vs).flatten)
        exact G.2 p' _ _ hp (.tup (SqT.of upd_same) ((ia.mono sm').rep j.toNat))
    · cases hg
  · cases hg
/-! ### < <= > >= of ints -/
def cmpD (p : Int → Int → Bool) : D → D → Option D
  | .int i, .int j => some (.bl (p i j))
  | _, _ => none
theorem snd_cmp {p : Int → Int → Bool} : Snd2 K mg (rI0 fun i j => .bl (p i j)) (cmpD p) := by
  intro F H x y a b z Q sm ra rb hg G
  unfold cmpD at hg
  split at hg
  · cases hg; exact ⟨_, _, ra.int, rb.int, G.1 _ (.bl _)⟩
  · cases hg
abbrev ltD := cmpD fun i j => decide (i < j)
abbrev leD := cmpD fun i j => decide (i ≤ j)
abbrev gtD := cmpD fun i j => decide (j < i)
abbrev geD := cmpD fun i j => decide (j ≤ i)
/-! ### == and != -/
mutual
def toPy : D → PyData
  | .non => .none
  | .bl b => .bool b
  | .int i => .int i
  | .str x => .str x
  | .tup l => .tuple (toPyA l)
  | .lst l => .list (toPyA l)
  | .scr _ => .dict []
  | .fn _ => .dict []
  | .ty _ => .dict []
def toPyA : List D → List PyData
  | [] => []
  | d :: l => toPy d :: toPyA l
end
mutual
theorem dp_of {H : Hp} : ∀ (d : D) {v : V}, Is K mg H d v → (toPy d).canLay0 = true → Dp K H v (toPy d)
  | .non, _, h, _ => by cases h; exact .non
  | .bl b, _, h, _ => by cases h; exact .bl b
  | .int i, _, h, _ => by cases h; exact .int i
  | .str x, _, h, _ => by cases h; exact .str x
  | .tup l, _, h, z => by
    cases h with
    | tup h q => exact .tup h (dpA_of l q (by simpa [toPy, PyData.canLay0] using z))
  | .lst l, _, h, z => by
    cases h with
    | lst h q => exact .lst (SqL.of h) (dpA_of l q (by simpa [toPy, PyData.canLay0] using z))
  | .scr l, _, _, z => by simp [toPy, PyData.canLay0] at z
  | .fn l, _, _, z => by simp [toPy, PyData.canLay0] at z
  | .ty l, _, _, z => by simp [toPy, PyData.canLay0] at z
theorem dpA_of {H : Hp} : ∀ (l : List D) {vs : List V}, IsA K mg H l vs → PyData.canLayAll0 (toPyA l) = true → DpAll K H vs (toPyA l)
  | [], _, h, _ => by cases h; exact .nil
  | d :: l, _, h, z => by
    simp only [toPyA, PyData.canLayAll0, Bool.and_eq_true] at z
    cases h with
    | cons h q => exact .cons (dp_of d h z.1) (dpA_of l q z.2)
end
def eqvD (d e : D) : Bool := PyData.eqv (toPy d) (toPy e)
def eqD (d e : D) : Option D := if SeqAt.shaped (toPy d) = true ∧ SeqAt.shaped (toPy e) = true then some (.bl (eqvD d e)) else none
def neD (d e : D) : Option D := if SeqAt.shaped (toPy d) = true ∧ SeqAt.shaped (toPy e) = true then some (.bl (!eqvD d e)) else none
theorem snd_eq : Snd2 K mg (rEqD K) eqD := by
  intro F H x y a b z Q sm ra rb hg G
  unfold eqD at hg
  split at hg
  · rename_i hc
    cases hg
    exact ⟨_, _, dp_of a (ra.is sm) (SeqAt.canLay_of_shaped hc.1), dp_of b (rb.is sm) (SeqAt.canLay_of_shaped hc.2), hc.1, hc.2, G.1 _ (.bl _)⟩
  · cases hg
theorem snd_ne : Snd2 K mg (rNeD K) neD := by
  intro F H x y a b z Q sm ra rb hg G
  unfold neD at hg
  split at hg
  · rename_i hc
    cases hg
    exact ⟨_, _, dp_of a (ra.is sm) (SeqAt.canLay_of_shaped hc.1), dp_of b (rb.is sm) (SeqAt.canLay_of_shaped hc.2), hc.1, hc.2, G.1 _ (.bl _)⟩
  · cases hg
/-! ### is None -/
def isND : D → D → Option D
  | d, .non => some (.bl (isNon d))
  | _, _ => none
def notND : D → D → Option D
  | d, .non => some (.bl (!isNon d))
  | _, _ => none
theorem snd_isN : Snd2 K mg (fun x y H Q => y = .non ∧ Q (.bl (decide (x = .non))) H) isND := by
  intro F H x y a b z Q sm ra rb hg G
  unfold isND at hg
  split at hg
  · cases hg
    refine ⟨rb.non, ?_⟩
    rw [ra.nn]
    exact G.1 _ (.bl _)
  · cases hg
theorem snd_notN : Snd2 K mg (fun x y H Q => y = .non ∧ Q (.bl (!decide (x = .non))) H) notND := by
  intro F H x y a b z Q sm ra rb hg G
  unfold notND at hg
  split at hg
  · cases hg
    refine ⟨rb.non, ?_⟩
    rw [ra.nn]
    exact G.1 _ (.bl _)
  · cases hg
/-! ### x in a list -/
def inLD (d e : D) : Option D := match e with
  | .lst l => if SeqAt.shaped (toPy d) = true ∧ SeqAt.shaped (toPy e) = true then some (.bl (l.any fun z => eqvD z d)) else none
  | _ => none
def notInLD (d e : D) : Option D := match e with
  | .lst l => if SeqAt.shaped (toPy d) = true ∧ SeqAt.shaped (toPy e) = true then some (.bl (!l.any fun z => eqvD z d)) else none
  | _ => none
theorem any_py (d : D) : ∀ l : List D, ((toPyA l).any fun z => PyData.eqv z (toPy d)) = l.any fun z => eqvD z d
  | [] => rfl
  | a :: l => by rw [toPyA, List.any_cons, List.any_cons, any_py d l]; rfl
theorem snd_inL : Snd2 K mg (rInD K) inLD := by
  intro F H x y a b z Q sm ra rb hg G
  unfold inLD at hg
  split at hg
  · rename_i l
    split at hg
    · rename_i hc
      cases hg
      refine ⟨_, toPyA l, dp_of a (ra.is sm) (SeqAt.canLay_of_shaped hc.1), dp_of (.lst l) (rb.is sm) (SeqAt.canLay_of_shaped hc.2), hc.1, hc.2, ?_⟩
      rw [any_py]
      exact G.1 _ (.bl _)
    · cases hg
  · cases hg
theorem snd_notInL : Snd2 K mg (rNotInD K) notInLD := by
  intro F H x y a b z Q sm ra rb hg G
  unfold notInLD at hg
  split at hg
  · rename_i l
    split at hg
    · rename_i hc
      cases hg
      refine ⟨_, toPyA l, dp_of a (ra.is sm) (SeqAt.canLay_of_shaped hc.1), dp_of (.lst l) (rb.is sm) (SeqAt.canLay_of_shaped hc.2), hc.1, hc.2, ?_⟩
      rw [any_py]
      exact G.1 _ (.bl _)
    · cases hg
  · cases hg
/-! ### subscripts -/
def ixD : D → D → Option D
  | .lst l, .int i => atI l i
  | .tup l, .int i => atI l i
  | .scr l, .int i => (atI l i).map D.int
  | .str z, .int i => if z.length ≤ cap then (atI z.cps.toList i).map fun c => .str ⟨#[c]⟩ else none
  | _, _ => none
theorem isA_atI {F : Hp} {l : List D} {vs : List V} {i : Int} {d : D} (r : IsA K mg F l vs) (h : atI l i = some d) : ∃ v, atI vs i = some v ∧ Is K mg F d v := by
  unfold atI at h ⊢
  rw [← r.length]
  cases e : ixN l.length i with
  | none => rw [e] at h; cases h
  | some j =>
    rw [e] at h
    exact r.get h
theorem atI_map {α β : Type} (f : α → β) (l : List α) (i : Int) : atI (l.map f) i = (atI l i).map f := by
  unfold atI
  rw [List.length_map]
  cases ixN l.length i with
  | none => rfl
  | some j => exact List.getElem?_map
theorem snd_ix : Snd2 K mg (rIx K) ixD := by
  intro F H x y a b z Q sm ra rb hg G
  unfold ixD at hg
  split at hg
  · obtain ⟨p, vs, rfl, tH, ia⟩ := ra.lst sm
    obtain ⟨v, h1, h2⟩ := isA_atI ia hg
    exact .inl ⟨p, vs, _, v, rfl, rb.int, SqL.of tH, h1, G.1 _ h2⟩
  · obtain ⟨p, vs, rfl, tF, tH, ia⟩ := ra.tup sm
    obtain ⟨v, h1, h2⟩ := isA_atI ia hg
    exact .inr (.inl ⟨p, vs, _, v, rfl, rb.int, tH, h1, G.1 _ h2⟩)
  · rename_i l i
    obtain ⟨p, rfl, tH⟩ := ra.scr sm
    obtain ⟨j, h1, rfl⟩ := Option.map_eq_some_iff.mp hg
    exact .inl ⟨p, _, _, .int j, rfl, rb.int, tH, by rw [atI_map, h1]; rfl, G.1 _ (.int _)⟩
  · split at hg
    · rename_i hc
      obtain ⟨c, h1, rfl⟩ := Option.map_eq_some_iff.mp hg
      exact .inr (.inr ⟨_, _, c, ra.str, rb.int, cap_line hc, h1, G.1 _ (.str _)⟩)
    · cases hg
  · cases hg
/-! ### unary -/
def negD : D → Option D
  | .int i => some (.int (-i))
  | _ => none
theorem snd_neg : Snd1 K mg (rU fun i => .int (-i)) negD := by
  intro F H x a z Q sm ra hg G
  unfold negD at hg
  split at hg
  · cases hg; exact ⟨_, ra.int, G.1 _ (.int _)⟩
  · cases hg
end
end GF

set_option maxHeartbeats 2000000
/-! Arguments, displays, slices, calls, what is walked, comprehensions. -/
namespace GF
open PySem PySem.Spec PyProof.Rows L2

/-! ### argument lists -/
def aNil : FA := fun _ μ => .ok [] μ
def aCons (f : FE) (r : FA) : FA := fun ρ μ => (f ρ μ).bind fun s μ1 => (r ρ μ1).bind fun ss μ2 => .ok (s :: ss) μ2
section
variable {X : Cx} {W : WX} {e : Expr} {es : List Expr} {f : FE} {fa : FA} {pos : Pos}
theorem da_nil : DA X W [] aNil := .in ⟨_, pa_nil, fun σ H m ρ μ Q M rr h => h [] H m .refl M .nil⟩
theorem da_cons (he : DE X W e f) (ha : DA X W es fa) (hs : starEach (e :: es) X.env = (false, eval e X.env) :: starEach es X.env := by rfl) : DA X W (e :: es) (aCons f fa) := by
  obtain ⟨te, pe, qe⟩ := he.ex
  obtain ⟨ta, pa, qa⟩ := ha.ex
  refine .in ⟨_, pa_cons pe pa hs, fun σ H m ρ μ Q M rr h => ?_⟩
  refine qe σ H m ρ μ _ M rr ?_
  have h : wpA X.K X.mg m ((f ρ μ).bind fun s μ1 => (fa ρ μ1).bind fun ss μ2 => .ok (s :: ss) μ2) Q _ := h
  cases e1 : f ρ μ with
  | stk => rw [e1] at h; exact h
  | exc x μ' => rw [e1] at h; exact h
  | ok s μ1 =>
    rw [e1] at h
    intro v H1 m1 x1 M1 r1
    have h : wpA X.K X.mg m ((fa ρ μ1).bind fun ss μ2 => .ok (s :: ss) μ2) Q _ := h
    have h := h.mono x1
    refine qa σ H1 m1 ρ μ1 _ M1 (rr.mono x1) ?_
    cases e2 : fa ρ μ1 with
    | stk => rw [e2] at h; exact h
    | exc x μ' => rw [e2] at h; exact h
    | ok ss μ2 =>
      rw [e2] at h
      intro vs H2 m2 x2 M2 r2
      exact h _ H2 m2 x2 M2 (.cons (r1.mono x2) r2)
theorem wpA_bind {K : PySem.W.Frag} {mg : Str → Option Value} {m : Mc} {o : Out (List S)} {k : List S → Mu → Out S} {Q : V → Hp → Prop} {Q' : List V → Hp → Prop} {E : XK} (h : wpE K mg m (o.bind k) Q E)
    (hk : ∀ s v μ H' m', Ext m m' → Mem K mg m' μ H' → SAll K mg m' s v → wpE K mg m' (k s μ) Q E → Q' v H') : wpA K mg m o Q' E := by
  cases o with
  | stk => exact h
  | exc x μ => exact h
  | ok b μ => exact fun v H' m' e M r => hk b v μ H' m' e M r (wpE.mono (o := k b μ) e h)

/-! ### displays -/
def allD : List S → Option (List D)
  | [] => some []
  | .d d :: r => (allD r).map (d :: ·)
  | .c _ :: _ => none
theorem allD_ok {K : PySem.W.Frag} {mg : Str → Option Value} {m : Mc} : ∀ {ss : List S} {vs : List V} {l : List D}, SAll K mg m ss vs → allD ss = some l → IsA K mg m.fr l vs
  | [], _, _, .nil, h => by cases h; exact .nil
  | .d d :: r, _, _, .cons a q, h => by
    obtain ⟨l', h1, rfl⟩ := Option.map_eq_some_iff.mp h
    exact .cons a (allD_ok q h1)
  | .c _ :: _, _, _, .cons _ _, h => by cases h
def mkTup (ss : List S) (μ : Mu) : Out S := match allD ss with
  | some l => if l.length ≤ cap then .ok (.d (.tup l)) μ else .stk
  | none => .stk
def mkLst (ss : List S) (μ : Mu) : Out S := match allD ss with
  | some l => if l.length ≤ cap then .ok (.d (.lst l)) μ else .stk
  | none => .stk
def mkCell (ss : List S) (μ : Mu) : Out S := match allD ss with
  | some l => if l.length ≤ cap then .ok (.c μ.length) (μ ++ [.lst l]) else .stk
  | none => .stk
def eTup (fa : FA) : FE := fun ρ μ => (fa ρ μ).bind mkTup
def eLst (fa : FA) : FE := fun ρ μ => (fa ρ μ).bind mkLst
def eCell (fa : FA) : FE := fun ρ μ => (fa ρ μ).bind mkCell
theorem de_tup {x1} (ha : DA X W es fa) : DE X W (.Tuple es x1 pos) (eTup fa) := by
  obtain ⟨ta, pa, qa⟩ := ha.ex
  refine .in ⟨_, pe_tup pa, fun σ H m ρ μ Q M rr h => qa σ H m ρ μ _ M rr (wpA_bind h fun s v μ H' m' e M' r' h' => ?_)⟩
  unfold mkTup at h'
  split at h'
  · rename_i l hl
    split at h'
    · rename_i hc
      have ia := allD_ok r' hl
      refine ⟨by rw [← ia.length]; exact cap_line hc, fun p hp => ?_⟩
      exact h' _ _ (m'.add p _) (ext_add (M'.free hp) _) (M'.new hp _) (.tup (SqT.of upd_same) (ia.mono (same_add (M'.free hp) _)))
    · exact h'.elim
  · exact h'.elim
theorem de_lst (ha : DA X W es fa) : DE X W (.List es pos) (eLst fa) := by
  obtain ⟨ta, pa, qa⟩ := ha.ex
  refine .in ⟨_, pe_lst pa, fun σ H m ρ μ Q M rr h => qa σ H m ρ μ _ M rr (wpA_bind h fun s v μ H' m' e M' r' h' => ?_)⟩
  unfold mkLst at h'
  split at h'
  · rename_i l hl
    split at h'
    · rename_i hc
      have ia := allD_ok r' hl
      refine ⟨by rw [← ia.length]; exact cap_line hc, fun p hp => ?_⟩
      exact h' _ _ (m'.add p _) (ext_add (M'.free hp) _) (M'.new hp _) (.lst upd_same (ia.mono (same_add (M'.free hp) _)))
    · exact h'.elim
  · exact h'.elim
/-- a list that will be changed: a new cell -/
theorem de_cell (ha : DA X W es fa) : DE X W (.List es pos) (eCell fa) := by
  obtain ⟨ta, pa, qa⟩ := ha.ex
  refine .in ⟨_, pe_lst pa, fun σ H m ρ μ Q M rr h => qa σ H m ρ μ _ M rr (wpA_bind h fun s v μ H' m' e M' r' h' => ?_)⟩
  unfold mkCell at h'
  split at h'
  · rename_i l hl
    split at h'
    · rename_i hc
      have ia := allD_ok r' hl
      refine ⟨by rw [← ia.length]; exact cap_line hc, fun p hp => ?_⟩
      refine h' _ _ (m'.psh p) ext_psh (M'.push hp ia) ⟨p, ?_, rfl⟩
      show (m'.al ++ [p])[μ.length]? = some p
      rw [← M'.len]; simp
    · exact h'.elim
  · exact h'.elim
end

/-! ### slices -/
abbrev FO := Rho → Mu → Out (Option Int)
def wpO (K : PySem.W.Frag) (mg : Str → Option Value) (m : Mc) (o : Out (Option Int)) (Q : Option Int → Hp → Prop) (E : XK) : Prop := match o with
  | .stk => False
  | .ok b μ => ∀ H' m', Ext m m' → Mem K mg m' μ H' → Q b H'
  | .exc x μ => ∀ cls d H' m', Ext m m' → Mem K mg m' μ H' → ExnIs K mg m'.fr H' x cls d → E cls d H'
theorem wpO.mono {K : PySem.W.Frag} {mg : Str → Option Value} {m m1 : Mc} {o : Out (Option Int)} {Q : Option Int → Hp → Prop} {E : XK} (e : Ext m m1) (h : wpO K mg m o Q E) : wpO K mg m1 o Q E := by
  cases o with
  | stk => exact h
  | ok s μ => exact fun H' m' x => h H' m' (e.trans x)
  | exc x μ => exact fun c d H' m' x => h c d H' m' (e.trans x)
structure DO (X : Cx) (W : WX) (e : Option Expr) (f : FO) : Prop where
  ex : ∃ t : TO, PO X e t ∧ ∀ σ H m ρ μ Q, Mem X.K X.mg m μ H → RhoIs X.K X.mg m ρ σ → wpO X.K X.mg m (f ρ μ) Q (fun c d H' => W c d σ H') → t σ H Q
def oNone : FO := fun _ μ => .ok none μ
def asI (s : S) (μ : Mu) : Out (Option Int) := match s with
  | .d (.int i) => .ok (some i) μ
  | _ => .stk
def oSome (f : FE) : FO := fun ρ μ => (f ρ μ).bind asI
def cutL {α : Type} (xs : List α) (lo hi : Option Int) : List α := (xs.drop (HT.sIx xs.length 0 lo)).take (HT.sIx xs.length xs.length hi - HT.sIx xs.length 0 lo)
def slD (d : D) (lo hi : Option Int) : Option D := match d with
  | .tup l => some (.tup (cutL l lo hi))
  | .lst l => some (.lst (cutL l lo hi))
  | .str z => if z.length ≤ cap then some (.str (cutS z lo hi)) else none
  | _ => none
def op3 (a : S) (lo hi : Option Int) (μ : Mu) : Out S := match view a μ with
  | some x => (match slD x lo hi with
    | some z => .ok (.d z) μ
    | none => .stk)
  | _ => .stk
def eSl (f : FE) (g h : FO) : FE := fun ρ μ => (f ρ μ).bind fun s μ1 => (g ρ μ1).bind fun l μ2 => (h ρ μ2).bind fun u μ3 => op3 s l u μ3
section
variable {X : Cx} {W : WX} {e : Expr} {es : List Expr} {f : FE} {fa : FA} {pos p2 : Pos} {lo hi : Option Expr} {g h : FO} {K : PySem.W.Frag} {mg : Str → Option Value}
theorem do_none : DO X W none oNone := ⟨_, po_none, fun σ H m ρ μ Q M rr h => h H m .refl M⟩
theorem do_some (he : DE X W e f) : DO X W (some e) (oSome f) := by
  obtain ⟨te, pe, qe⟩ := he.ex
  refine ⟨_, po_some pe, fun σ H m ρ μ Q M rr h => qe σ H m ρ μ _ M rr ?_⟩
  have h : wpO X.K X.mg m ((f ρ μ).bind asI) Q _ := h
  cases e1 : f ρ μ with
  | stk => rw [e1] at h; exact h
  | exc x μ' => rw [e1] at h; exact h
  | ok s μ1 =>
    rw [e1] at h
    intro v H1 m1 x1 M1 r1
    have h : wpO X.K X.mg m (asI s μ1) Q _ := h
    cases s with
    | c k => exact h.elim
    | d d =>
      cases d with
      | int i =>
        cases (show Is X.K X.mg m1.fr (.int i) v from r1)
        exact ⟨i, rfl, h H1 m1 x1 M1⟩
      | _ => exact h.elim
theorem IsA.cut {F : Hp} {l : List D} {vs : List V} (r : IsA K mg F l vs) (lo hi : Option Int) : IsA K mg F (cutL l lo hi) (cutV vs lo hi) := by
  unfold cutL cutV
  rw [r.length]
  exact (r.drop _).take _
abbrev rSlAny (K : PySem.W.Frag) : V → Option Int → Option Int → Hp → VK → Prop := fun x lo hi H Q => rSlA K x lo hi H Q ∨ rSlL K x lo hi H Q ∨ rSlS x lo hi H Q
theorem sl_any : SlR X (rSlAny X.K) := sl_tupA.or (sl_list.or sl_str)
theorem snd_sl {F H : Hp} {x : V} {a z : D} {lo hi : Option Int} {Q : V → Hp → Prop} (sm : Same F H) (ra : Vw K mg F H a x) (hg : slD a lo hi = some z) (G : Gives K mg F H z Q) : rSlAny K x lo hi H Q := by
  unfold slD at hg
  split at hg
  · rename_i l
    cases hg
    obtain ⟨p, vs, rfl, tF, tH, ia⟩ := ra.tup sm
    refine .inl ⟨p, vs, rfl, tH, fun hw => G.1 _ (.tup tF ?_), fun _ p' hp => ?_⟩
    · have e : cutL l lo hi = l := by
        unfold cutL
        rw [ia.length, hw.1, hw.2, List.drop_zero, Nat.sub_zero, ← ia.length, List.take_length]
      rw [e]; exact ia
    · have sm' := same_add (sm.free hp) (.tup (cutV vs lo hi))
      exact G.2 p' _ _ hp (.tup (SqT.of upd_same) ((ia.mono sm').cut lo hi))
  · rename_i l
    cases hg
    obtain ⟨p, vs, rfl, tH, ia⟩ := ra.lst sm
    refine .inr (.inl ⟨p, vs, rfl, SqL.of tH, fun p' hp => ?_⟩)
    have sm' := same_add (sm.free hp) (.lst (cutV vs lo hi))
    exact G.2 p' _ _ hp (.lst upd_same ((ia.mono sm').cut lo hi))
  · split at hg
    · rename_i hc
      cases hg
      exact .inr (.inr ⟨_, ra.str, cap_line hc, G.1 _ (.str _)⟩)
    · cases hg
  · cases hg
theorem de_sl (he : DE X W e f) (hl : DO X W lo g) (hh : DO X W hi h) : DE X W (.Subscript e (.Slice lo hi none p2) pos) (eSl f g h) := by
  obtain ⟨te, pe, qe⟩ := he.ex
  obtain ⟨tl, pl, ql⟩ := hl.ex
  obtain ⟨th, ph, qh⟩ := hh.ex
  refine .in ⟨_, pe_slice sl_any pe pl ph, fun σ H m ρ μ Q M rr w => qe σ H m ρ μ _ M rr (wpE_bind w fun s v μ1 H1 m1 e1 M1 r1 w1 => ?_)⟩
  refine ql σ H1 m1 ρ μ1 _ M1 (rr.mono e1) ?_
  have w1 : wpE X.K X.mg m1 ((g ρ μ1).bind fun l μ2 => (h ρ μ2).bind fun u μ3 => op3 s l u μ3) Q _ := w1
  cases e2 : g ρ μ1 with
  | stk => rw [e2] at w1; exact w1
  | exc x μ' => rw [e2] at w1; exact w1
  | ok l μ2 =>
    rw [e2] at w1
    intro H2 m2 x2 M2
    refine qh σ H2 m2 ρ μ2 _ M2 (rr.mono (e1.trans x2)) ?_
    have w2 : wpE X.K X.mg m1 ((h ρ μ2).bind fun u μ3 => op3 s l u μ3) Q _ := w1
    have w2 := w2.mono x2
    cases e3 : h ρ μ2 with
    | stk => rw [e3] at w2; exact w2
    | exc x μ' => rw [e3] at w2; exact w2
    | ok u μ3 =>
      rw [e3] at w2
      intro H3 m3 x3 M3
      have w3 : wpE X.K X.mg m2 (op3 s l u μ3) Q _ := w2
      have w3 := w3.mono x3
      unfold op3 at w3
      split at w3
      · rename_i d hd
        split at w3
        · rename_i z hz
          exact snd_sl M3.sub (view_ok M3 hd ((r1.mono x2).mono x3)) hz (gives_of M3 w3)
        · exact w3.elim
      · exact w3.elim
/-- xs[::-1] of a list -/
def revD : D → Option D
  | .lst l => some (.lst l.reverse)
  | _ => none
theorem de_revL {k : Nat} {p1 p2 p3 : Pos} (he : DE X W e f) : DE X W (.Subscript e (.Slice none none (some (.UnaryOp .USub (.Constant (.int 1) k p1) p2)) p3) pos) (eUn revD f) := by
  obtain ⟨te, pe, qe⟩ := he.ex
  refine .in ⟨_, pe_revL pe, fun σ H m ρ μ Q M rr w => qe σ H m ρ μ _ M rr (wpE_bind w fun s v μ1 H1 m1 e1 M1 r1 w1 => ?_)⟩
  unfold op1 at w1
  split at w1
  · rename_i d hd
    split at w1
    · rename_i z hz
      unfold revD at hz
      split at hz
      · cases hz
        obtain ⟨p, vs, rfl, tH, ia⟩ := (view_ok M1 hd r1).lst M1.sub
        refine ⟨p, vs, rfl, SqL.of tH, fun p' hp => ?_⟩
        exact w1 _ _ (m1.add p' _) (ext_add (M1.free hp) _) (M1.new hp _) (.lst upd_same ((ia.mono (same_add (M1.free hp) _)).reverse))
      · cases hz
    · exact w1.elim
  · exact w1.elim
end

/-! ### calls of built-ins -/
inductive VwA (K : PySem.W.Frag) (mg : Str → Option Value) (F H : Hp) : List D → List V → Prop
  | nil : VwA K mg F H [] []
  | cons {d : D} {l : List D} {v : V} {vs : List V} : Vw K mg F H d v → VwA K mg F H l vs → VwA K mg F H (d :: l) (v :: vs)
def viewA : List S → Mu → Option (List D)
  | [], _ => some []
  | s :: r, μ => match view s μ with
    | some d => (viewA r μ).map (d :: ·)
    | none => none
def opA (g : List D → Option D) (ss : List S) (μ : Mu) : Out S := match viewA ss μ with
  | some l => (match g l with
    | some z => .ok (.d z) μ
    | none => .stk)
  | none => .stk
def SndC (K : PySem.W.Frag) (mg : Str → Option Value) (r : List V → Hp → VK → Prop) (g : List D → Option D) : Prop :=
  ∀ F H xs ds z Q, Same F H → VwA K mg F H ds xs → g ds = some z → Gives K mg F H z Q → r xs H Q
def eBi (g : List D → Option D) (fa : FA) : FE := fun ρ μ => (fa ρ μ).bind fun ss μ1 => opA g ss μ1
section
variable {X : Cx} {W : WX} {e : Expr} {es : List Expr} {f : FE} {fa : FA} {p pos : Pos} {K : PySem.W.Frag} {mg : Str → Option Value}
theorem viewA_ok {m : Mc} {μ : Mu} {H : Hp} (M : Mem K mg m μ H) : ∀ {ss : List S} {vs : List V} {l : List D}, SAll K mg m ss vs → viewA ss μ = some l → VwA K mg m.fr H l vs
  | [], _, _, .nil, h => by cases h; exact .nil
  | s :: r, _, _, .cons a q, h => by
    unfold viewA at h
    split at h
    · rename_i d hd
      obtain ⟨l', h1, rfl⟩ := Option.map_eq_some_iff.mp h
      exact .cons (view_ok M hd a) (viewA_ok M q h1)
    · cases h
theorem sndC_at {r : List V → Hp → VK → Prop} {g : List D → Option D} (hs : SndC K mg r g) {m : Mc} {μ : Mu} {H : Hp} {ss : List S} {vs : List V} {Q : V → Hp → Prop} {E : XK} (M : Mem K mg m μ H) (ra : SAll K mg m ss vs)
    (h : wpE K mg m (opA g ss μ) Q E) : r vs H Q := by
  unfold opA at h
  split at h
  · rename_i u h1
    split at h
    · rename_i z hz
      exact hs m.fr H vs u z Q M.sub (viewA_ok M ra h1) hz (gives_of M h)
    · exact h.elim
  · exact h.elim
theorem de_bi {x : Str} {id : String} {r : List V → Hp → VK → Prop} {g : List D → Option D} (hc : CallR X (.builtin id) r) (hs : SndC X.K X.mg r g) (hm : X.mg x = none) (hv : bootBuiltins x = some (.builtin id)) (ha : DA X W (e :: es) fa)
    (hg : Gl X x := by rfl) (hn : x ≠ "__name__" := by decide) (hdb : (x == ("__debug__" : Str)) = false := by decide)
    (he : starEach (e :: es) X.env = (false, eval e X.env) :: starEach es X.env := by rfl) (hpl : (backTo pos (starEach es X.env)).any (·.1) = false := by rfl) : DE X W (.Call (.Name x p) (e :: es) [] pos) (eBi g fa) := by
  obtain ⟨ta, pa, qa⟩ := ha.ex
  exact .in ⟨_, pe_callB hc hg hm hv pa hn hdb he hpl, fun σ H m ρ μ Q M rr h => qa σ H m ρ μ _ M rr (wpA_bind h fun s v μ H' m' e M' r' h' => sndC_at hs M' r' h')⟩
theorem de_ty {x : Str} {T : String} {r : List V → Hp → VK → Prop} {g : List D → Option D} (hc : CallR X (.type T) r) (hs : SndC X.K X.mg r g) (hm : X.mg x = none) (hv : bootBuiltins x = some (.type T)) (ha : DA X W (e :: es) fa)
    (hg : Gl X x := by rfl) (hn : x ≠ "__name__" := by decide) (hdb : (x == ("__debug__" : Str)) = false := by decide)
    (he : starEach (e :: es) X.env = (false, eval e X.env) :: starEach es X.env := by rfl) (hpl : (backTo pos (starEach es X.env)).any (·.1) = false := by rfl) : DE X W (.Call (.Name x p) (e :: es) [] pos) (eBi g fa) := by
  obtain ⟨ta, pa, qa⟩ := ha.ex
  exact .in ⟨_, pe_callTy hc hg hm hv pa hn hdb he hpl, fun σ H m ρ μ Q M rr h => qa σ H m ρ μ _ M rr (wpA_bind h fun s v μ H' m' e M' r' h' => sndC_at hs M' r' h')⟩
/-- a built-in class as a value -/
theorem de_cls {x : Str} {T : String} (hm : X.mg x = none) (hv : bootBuiltins x = some (.type T)) (hg : Gl X x := by rfl) (hn : x ≠ "__name__" := by decide) (hd : (x == ("__debug__" : Str)) = false := by decide) : DE X W (.Name x pos) (eC (.ty T)) :=
  .in ⟨_, pe_bltn (v := .ty T) hg hm hv rfl hn hd, fun σ H m ρ μ Q M rr h => h _ H m .refl M (.ty T)⟩
/-! #### which -/
def lenD : List D → Option D
  | [.lst l] => some (.int l.length)
  | [.tup l] => some (.int l.length)
  | [.scr l] => some (.int l.length)
  | [.str z] => if z.length ≤ cap then some (.int z.length) else none
  | _ => none
theorem vwA1 {F H : Hp} {d : D} {vs : List V} (h : VwA K mg F H [d] vs) : ∃ v, vs = [v] ∧ Vw K mg F H d v := by
  cases h with | cons a q => cases q; exact ⟨_, rfl, a⟩
theorem vwA2 {F H : Hp} {d d' : D} {vs : List V} (h : VwA K mg F H [d, d'] vs) : ∃ v v', vs = [v, v'] ∧ Vw K mg F H d v ∧ Vw K mg F H d' v' := by
  cases h with | cons a q => cases q with | cons b q => cases q; exact ⟨_, _, rfl, a, b⟩
abbrev rLenA (K : PySem.W.Frag) : List V → Hp → VK → Prop := fun xs H Q => (∃ p ys, xs = [.ref p] ∧ (SqL K H p ys ∨ SqT K H p ys) ∧ Q (.int ys.length) H) ∨ (∃ z, xs = [.str z] ∧ z.length ≤ sizeLine ∧ Q (.int z.length) H)
theorem call_lenA : CallR X (.builtin "len") (rLenA X.K) := call_len_seq.or call_len_str
theorem snd_len : SndC K mg (rLenA K) lenD := by
  intro F H xs ds z Q sm ra hg G
  unfold lenD at hg
  split at hg
  · cases hg
    obtain ⟨v, rfl, a⟩ := vwA1 ra
    obtain ⟨p, vs, rfl, tH, ia⟩ := a.lst sm
    exact .inl ⟨p, vs, rfl, .inl (SqL.of tH), by rw [← ia.length]; exact G.1 _ (.int _)⟩
  · cases hg
    obtain ⟨v, rfl, a⟩ := vwA1 ra
    obtain ⟨p, vs, rfl, tF, tH, ia⟩ := a.tup sm
    exact .inl ⟨p, vs, rfl, .inr tH, by rw [← ia.length]; exact G.1 _ (.int _)⟩
  · rename_i l
    cases hg
    obtain ⟨v, rfl, a⟩ := vwA1 ra
    obtain ⟨p, rfl, tH⟩ := a.scr sm
    refine .inl ⟨p, _, rfl, .inl tH, ?_⟩
    rw [List.length_map]
    exact G.1 _ (.int _)
  · split at hg
    · rename_i hc
      cases hg
      obtain ⟨v, rfl, a⟩ := vwA1 ra
      exact .inr ⟨_, by rw [a.str], cap_line hc, G.1 _ (.int _)⟩
    · cases hg
  · cases hg
def intD : List D → Option D
  | [.int i] => some (.int i)
  | [.bl k] => some (.int (if k then 1 else 0))
  | _ => none
theorem snd_int : SndC K mg (fun xs H Q => (∃ i, xs = [.int i] ∧ Q (.int i) H) ∨ ∃ k, xs = [.bl k] ∧ Q (.int (if k then 1 else 0)) H) intD := by
  intro F H xs ds z Q sm ra hg G
  unfold intD at hg
  split at hg
  · cases hg
    obtain ⟨v, rfl, a⟩ := vwA1 ra
    exact .inl ⟨_, by rw [a.int], G.1 _ (.int _)⟩
  · cases hg
    obtain ⟨v, rfl, a⟩ := vwA1 ra
    exact .inr ⟨_, by rw [a.bl], G.1 _ (.int _)⟩
  · cases hg
def listD : List D → Option D
  | [.lst l] => some (.lst l)
  | [.tup l] => some (.lst l)
  | _ => none
theorem snd_list : SndC K mg (fun xs H Q => ∃ p ys, xs = [.ref p] ∧ (SqL K H p ys ∨ SqT K H p ys) ∧ ∀ l, H l = none → Q (.ref l) (upd H l (.lst ys))) listD := by
  intro F H xs ds z Q sm ra hg G
  unfold listD at hg
  split at hg
  · cases hg
    obtain ⟨v, rfl, a⟩ := vwA1 ra
    obtain ⟨p, vs, rfl, tH, ia⟩ := a.lst sm
    exact ⟨p, vs, rfl, .inl (SqL.of tH), fun p' hp => G.2 p' _ _ hp (.lst upd_same (ia.mono (same_add (sm.free hp) _)))⟩
  · cases hg
    obtain ⟨v, rfl, a⟩ := vwA1 ra
    obtain ⟨p, vs, rfl, tF, tH, ia⟩ := a.tup sm
    exact ⟨p, vs, rfl, .inr tH, fun p' hp => G.2 p' _ _ hp (.lst upd_same (ia.mono (same_add (sm.free hp) _)))⟩
  · cases hg
/-- list(x), the new list to be changed -/
def opLC (ss : List S) (μ : Mu) : Out S := match viewA ss μ with
  | some l => (match listD l with
    | some (.lst z) => .ok (.c μ.length) (μ ++ [.lst z])
    | _ => .stk)
  | none => .stk
def eListC (fa : FA) : FE := fun ρ μ => (fa ρ μ).bind fun ss μ1 => opLC ss μ1
theorem de_listC {x : Str} (hm : X.mg x = none) (hv : bootBuiltins x = some (.type "list")) (ha : DA X W (e :: es) fa)
    (hg : Gl X x := by rfl) (hn : x ≠ "__name__" := by decide) (hdb : (x == ("__debug__" : Str)) = false := by decide)
    (he : starEach (e :: es) X.env = (false, eval e X.env) :: starEach es X.env := by rfl) (hpl : (backTo pos (starEach es X.env)).any (·.1) = false := by rfl) : DE X W (.Call (.Name x p) (e :: es) [] pos) (eListC fa) := by
  obtain ⟨ta, pa, qa⟩ := ha.ex
  refine .in ⟨_, pe_callTy call_list_of hg hm hv pa hn hdb he hpl, fun σ H m ρ μ Q M rr h => qa σ H m ρ μ _ M rr (wpA_bind h fun s v μ H' m' e M' r' h' => ?_)⟩
  unfold opLC at h'
  split at h'
  · rename_i l hl
    have va := viewA_ok M' r' hl
    split at h'
    · rename_i z hz
      unfold listD at hz
      split at hz
      · cases hz
        obtain ⟨v, rfl, a⟩ := vwA1 va
        obtain ⟨p, vs, rfl, tH, ia⟩ := a.lst M'.sub
        refine ⟨p, vs, rfl, .inl (SqL.of tH), fun p' hp => h' _ _ (m'.psh p') ext_psh (M'.push hp ia) ⟨p', ?_, rfl⟩⟩
        show (m'.al ++ [p'])[μ.length]? = some p'
        rw [← M'.len]; simp
      · cases hz
        obtain ⟨v, rfl, a⟩ := vwA1 va
        obtain ⟨p, vs, rfl, tF, tH, ia⟩ := a.tup M'.sub
        refine ⟨p, vs, rfl, .inr tH, fun p' hp => h' _ _ (m'.psh p') ext_psh (M'.push hp ia) ⟨p', ?_, rfl⟩⟩
        show (m'.al ++ [p'])[μ.length]? = some p'
        rw [← M'.len]; simp
      · cases hz
    · exact h'.elim
  · exact h'.elim
def tupleD : List D → Option D
  | [.lst l] => some (.tup l)
  | [.tup l] => some (.tup l)
  | _ => none
theorem snd_tuple : SndC K mg (fun xs H Q => ∃ p ys, xs = [.ref p] ∧ ((SqL K H p ys ∧ ∀ l, H l = none → Q (.ref l) (upd H l (.tup ys))) ∨ (SqT K H p ys ∧ Q (.ref p) H))) tupleD := by
  intro F H xs ds z Q sm ra hg G
  unfold tupleD at hg
  split at hg
  · cases hg
    obtain ⟨v, rfl, a⟩ := vwA1 ra
    obtain ⟨p, vs, rfl, tH, ia⟩ := a.lst sm
    exact ⟨p, vs, rfl, .inl ⟨SqL.of tH, fun p' hp => G.2 p' _ _ hp (.tup (SqT.of upd_same) (ia.mono (same_add (sm.free hp) _)))⟩⟩
  · cases hg
    obtain ⟨v, rfl, a⟩ := vwA1 ra
    obtain ⟨p, vs, rfl, tF, tH, ia⟩ := a.tup sm
    exact ⟨p, vs, rfl, .inr ⟨tH, G.1 _ (.tup tF ia)⟩⟩
  · cases hg
def max2D : List D → Option D
  | [.int i, .int j] => some (.int (if j > i then j else i))
  | _ => none
theorem snd_max2 : SndC K mg (fun xs H Q => ∃ i j, xs = [.int i, .int j] ∧ Q (.int (if j > i then j else i)) H) max2D := by
  intro F H xs ds z Q sm ra hg G
  unfold max2D at hg
  split at hg
  · cases hg
    obtain ⟨v, w, rfl, a, b⟩ := vwA2 ra
    exact ⟨_, _, by rw [a.int, b.int], G.1 _ (.int _)⟩
  · cases hg
def min2D : List D → Option D
  | [.int i, .int j] => some (.int (if j < i then j else i))
  | _ => none
theorem snd_min2 : SndC K mg (fun xs H Q => ∃ i j, xs = [.int i, .int j] ∧ Q (.int (if j < i then j else i)) H) min2D := by
  intro F H xs ds z Q sm ra hg G
  unfold min2D at hg
  split at hg
  · cases hg
    obtain ⟨v, w, rfl, a, b⟩ := vwA2 ra
    exact ⟨_, _, by rw [a.int, b.int], G.1 _ (.int _)⟩
  · cases hg
def absD : List D → Option D
  | [.int i] => some (.int (if i < 0 then -i else i))
  | _ => none
theorem snd_abs : SndC K mg (fun xs H Q => ∃ i, xs = [.int i] ∧ Q (.int (if i < 0 then -i else i)) H) absD := by
  intro F H xs ds z Q sm ra hg G
  unfold absD at hg
  split at hg
  · cases hg
    obtain ⟨v, rfl, a⟩ := vwA1 ra
    exact ⟨_, by rw [a.int], G.1 _ (.int _)⟩
  · cases hg
def allBl : List D → Option (List Bool)
  | [] => some []
  | .bl b :: r => (allBl r).map (b :: ·)
  | _ => none
theorem allBl_ok {F : Hp} : ∀ {l : List D} {vs : List V} {bs : List Bool}, IsA K mg F l vs → allBl l = some bs → vs = bs.map V.bl
  | [], _, _, .nil, h => by cases h; rfl
  | .bl b :: r, _, _, .cons a q, h => by
    obtain ⟨l', h1, rfl⟩ := Option.map_eq_some_iff.mp h
    cases a
    rw [allBl_ok q h1]; rfl
  | .non :: _, _, _, .cons _ _, h => by cases h
  | .int _ :: _, _, _, .cons _ _, h => by cases h
  | .str _ :: _, _, _, .cons _ _, h => by cases h
  | .tup _ :: _, _, _, .cons _ _, h => by cases h
  | .lst _ :: _, _, _, .cons _ _, h => by cases h
  | .scr _ :: _, _, _, .cons _ _, h => by cases h
  | .fn _ :: _, _, _, .cons _ _, h => by cases h
  | .ty _ :: _, _, _, .cons _ _, h => by cases h
def allOfD : List D → Option D
  | [.lst l] => (allBl l).map fun bs => .bl (bs.all id)
  | _ => none
theorem snd_all : SndC K mg (rAll K) allOfD := by
  intro F H xs ds z Q sm ra hg G
  unfold allOfD at hg
  split at hg
  · obtain ⟨bs, h1, rfl⟩ := Option.map_eq_some_iff.mp hg
    obtain ⟨v, rfl, a⟩ := vwA1 ra
    obtain ⟨p, vs, rfl, tH, ia⟩ := a.lst sm
    refine ⟨p, bs, rfl, ?_, G.1 _ (.bl _)⟩
    rw [← allBl_ok ia h1]
    exact SqL.of tH
  · cases hg
/-! #### isinstance -/
def isiB (d : D) (T : String) : Option Bool :=
  if T = "int" then (match d with | .int _ => some true | .bl _ => some true | .non => some false | .str _ => some false | .tup _ => some false | .lst _ => some false | _ => none)
  else if T = "bool" then (match d with | .int _ => some false | .bl _ => some true | .non => some false | .str _ => some false | .tup _ => some false | .lst _ => some false | _ => none)
  else if T = "str" then (match d with | .int _ => some false | .bl _ => some false | .non => some false | .str _ => some true | .tup _ => some false | .lst _ => some false | _ => none)
  else if T = "tuple" then (match d with | .int _ => some false | .bl _ => some false | .non => some false | .str _ => some false | .tup _ => some true | .lst _ => some false | _ => none)
  else if T = "list" then (match d with | .int _ => some false | .bl _ => some false | .non => some false | .str _ => some false | .tup _ => some false | .lst _ => some true | _ => none)
  else none
def isiD : List D → Option D
  | [d, .ty T] => (isiB d T).map D.bl
  | _ => none
theorem tyT {H : Hp} {a : Addr} {vs : List V} (h : SqT K H a vs) : TyX K H (.ref a) (.type "tuple") := by
  rcases h with (h | ⟨o, h⟩) | ⟨o, its, n, h, hc, _⟩
  · exact .base (.tup h)
  · exact .fTuple h
  · exact .kTuple h hc
theorem isi_ty {F H : Hp} {d : D} {v : V} {T : String} {b : Bool} (sm : Same F H) (ra : Vw K mg F H d v) (h : isiB d T = some b) : ∃ t, TyX K H v t ∧ PySem.W.kitOne K t (.type T) = some b := by
  have key : ∀ (t : String) (q : TyX K H v (.type t)) (z : kitB t T = some b), ∃ t, TyX K H v t ∧ PySem.W.kitOne K t (.type T) = some b := fun t q z => ⟨_, q, kit_ty z⟩
  unfold isiB at h
  cases d with
  | non =>
    have e := ra.non
    subst e
    refine key "NoneType" (.base .non) ?_
    by_cases c1 : T = "int"
    · subst c1; cases h; decide +kernel
    rw [if_neg c1] at h
    by_cases c2 : T = "bool"
    · subst c2; cases h; decide +kernel
    rw [if_neg c2] at h
    by_cases c3 : T = "str"
    · subst c3; cases h; decide +kernel
    rw [if_neg c3] at h
    by_cases c4 : T = "tuple"
    · subst c4; cases h; decide +kernel
    rw [if_neg c4] at h
    by_cases c5 : T = "list"
    · subst c5; cases h; decide +kernel
    rw [if_neg c5] at h
    cases h
  | bl x =>
    have e := ra.bl
    subst e
    refine key "bool" (.base (.bl x)) ?_
    by_cases c1 : T = "int"
    · subst c1; cases h; decide +kernel
    rw [if_neg c1] at h
    by_cases c2 : T = "bool"
    · subst c2; cases h; decide +kernel
    rw [if_neg c2] at h
    by_cases c3 : T = "str"
    · subst c3; cases h; decide +kernel
    rw [if_neg c3] at h
    by_cases c4 : T = "tuple"
    · subst c4; cases h; decide +kernel
    rw [if_neg c4] at h
    by_cases c5 : T = "list"
    · subst c5; cases h; decide +kernel
    rw [if_neg c5] at h
    cases h
  | int x =>
    have e := ra.int
    subst e
    refine key "int" (.base (.int x)) ?_
    by_cases c1 : T = "int"
    · subst c1; cases h; decide +kernel
    rw [if_neg c1] at h
    by_cases c2 : T = "bool"
    · subst c2; cases h; decide +kernel
    rw [if_neg c2] at h
    by_cases c3 : T = "str"
    · subst c3; cases h; decide +kernel
    rw [if_neg c3] at h
    by_cases c4 : T = "tuple"
    · subst c4; cases h; decide +kernel
    rw [if_neg c4] at h
    by_cases c5 : T = "list"
    · subst c5; cases h; decide +kernel
    rw [if_neg c5] at h
    cases h
  | str x =>
    have e := ra.str
    subst e
    refine key "str" (.base (.str x)) ?_
    by_cases c1 : T = "int"
    · subst c1; cases h; decide +kernel
    rw [if_neg c1] at h
    by_cases c2 : T = "bool"
    · subst c2; cases h; decide +kernel
    rw [if_neg c2] at h
    by_cases c3 : T = "str"
    · subst c3; cases h; decide +kernel
    rw [if_neg c3] at h
    by_cases c4 : T = "tuple"
    · subst c4; cases h; decide +kernel
    rw [if_neg c4] at h
    by_cases c5 : T = "list"
    · subst c5; cases h; decide +kernel
    rw [if_neg c5] at h
    cases h
  | tup x =>
    obtain ⟨p, vs, rfl, tF, tH, ia⟩ := ra.tup sm
    refine key "tuple" (tyT tH) ?_
    by_cases c1 : T = "int"
    · subst c1; cases h; decide +kernel
    rw [if_neg c1] at h
    by_cases c2 : T = "bool"
    · subst c2; cases h; decide +kernel
    rw [if_neg c2] at h
    by_cases c3 : T = "str"
    · subst c3; cases h; decide +kernel
    rw [if_neg c3] at h
    by_cases c4 : T = "tuple"
    · subst c4; cases h; decide +kernel
    rw [if_neg c4] at h
    by_cases c5 : T = "list"
    · subst c5; cases h; decide +kernel
    rw [if_neg c5] at h
    cases h
  | lst x =>
    obtain ⟨p, vs, rfl, tH, ia⟩ := ra.lst sm
    refine key "list" (.base (.lst tH)) ?_
    by_cases c1 : T = "int"
    · subst c1; cases h; decide +kernel
    rw [if_neg c1] at h
    by_cases c2 : T = "bool"
    · subst c2; cases h; decide +kernel
    rw [if_neg c2] at h
    by_cases c3 : T = "str"
    · subst c3; cases h; decide +kernel
    rw [if_neg c3] at h
    by_cases c4 : T = "tuple"
    · subst c4; cases h; decide +kernel
    rw [if_neg c4] at h
    by_cases c5 : T = "list"
    · subst c5; cases h; decide +kernel
    rw [if_neg c5] at h
    cases h
  | _ =>
    by_cases c1 : T = "int"
    · rw [if_pos c1] at h; cases h
    rw [if_neg c1] at h
    by_cases c2 : T = "bool"
    · rw [if_pos c2] at h; cases h
    rw [if_neg c2] at h
    by_cases c3 : T = "str"
    · rw [if_pos c3] at h; cases h
    rw [if_neg c3] at h
    by_cases c4 : T = "tuple"
    · rw [if_pos c4] at h; cases h
    rw [if_neg c4] at h
    by_cases c5 : T = "list"
    · rw [if_pos c5] at h; cases h
    rw [if_neg c5] at h
    cases h
theorem snd_isi : SndC K mg (rIsi K) isiD := by
  intro F H xs ds z Q sm ra hg G
  unfold isiD at hg
  split at hg
  · rename_i d T
    obtain ⟨b, h1, rfl⟩ := Option.map_eq_some_iff.mp hg
    obtain ⟨v, w, rfl, a, c⟩ := vwA2 ra
    have ec : w = .ty T := by cases c with | of c => cases c; rfl
    subst ec
    obtain ⟨t, ht, hk⟩ := isi_ty sm a h1
    exact ⟨v, .ty T, t, .type T, b, rfl, .ty T, ht, hk, G.1 _ (.bl _)⟩
  · cases hg
end
end GF

set_option maxHeartbeats 2000000
/-! Defs and their calls, what is walked, targets, comprehensions, statements. -/
namespace GF
open PySem PySem.Spec PyProof.Rows L2

/-! ### a def's promise -/
def spD (K : PySem.W.Frag) (mg : Str → Option Value) (n : Nat) (g : List S → Mu → Out S) : Sp := fun vs H Q E => vs.length = n ∧ ∃ m μ ss, Mem K mg m μ H ∧ SAll K mg m ss vs ∧ wpE K mg m (g ss μ) Q E
def eCall (n : Nat) (g : List S → Mu → Out S) (fa : FA) : FE := fun ρ μ => (fa ρ μ).bind fun ss μ1 => if ss.length = n then g ss μ1 else .stk
section
variable {X : Cx} {W : WX} {e : Expr} {es : List Expr} {fa : FA} {p pos : Pos} {k n : Nat} {f : Addr} {fd : FuncData} {ps : List Str} {g : List S → Mu → Out S} {x : Str}
theorem de_call (F : FnOk X.prog X.w X.K X.mg X.base (L2.CX X.prog X.w) k f fd ps (spD X.K X.mg n g)) (hr : Room k X.A) (hm : X.mg x = some (.ref f)) (hk : PySem.W.keepIn X.K (.ref f) = true) (hb : Binds X.K fd ps []) (tk : Takes X W) (ha : DA X W (e :: es) fa)
    (hg : Gl X x := by rfl) (hdb : (x == ("__debug__" : Str)) = false := by decide) (he : starEach (e :: es) X.env = (false, eval e X.env) :: starEach es X.env := by rfl) (hpl : (backTo pos (starEach es X.env)).any (·.1) = false := by rfl) :
    DE X W (.Call (.Name x p) (e :: es) [] pos) (eCall n g fa) := by
  obtain ⟨ta, pa, qa⟩ := ha.ex
  refine .in ⟨_, pe_callSD (E := fun σ c d H => W c d σ H) (dvs := []) (ds := []) F hr hg hm hk hb .nil (fun σ => passAt tk σ) pa hdb he hpl, fun σ H m ρ μ Q M rr h => ?_⟩
  refine qa σ H m ρ μ _ M rr (wpA_bind h fun s v μ H' m' e M' r' h' => ?_)
  split at h'
  · rename_i hl
    rw [List.append_nil]
    exact ⟨by rw [← r'.length]; exact hl, m', μ, s, M', r', h'⟩
  · exact h'.elim
/-- a def without parameters -/
def eCall0 (g : List S → Mu → Out S) : FE := fun _ μ => g [] μ
theorem de_call0 {E : XK} (F : FnOk X.prog X.w X.K X.mg X.base (L2.CX X.prog X.w) k f fd ps (spD X.K X.mg 0 g)) (hr : Room k X.A) (hm : X.mg x = some (.ref f)) (hk : PySem.W.keepIn X.K (.ref f) = true) (hb : Binds X.K fd ps []) (tk : Takes X (fun c d _ H => E c d H))
    (hg : Gl X x := by rfl) (hdb : (x == ("__debug__" : Str)) = false := by decide) : DE X (fun c d _ H => E c d H) (.Call (.Name x p) [] [] pos) (eCall0 g) := by
  refine .in ⟨_, pe_call0 (dvs := []) (ds := []) (E := E) F hr hg hm hk hb .nil (passes_call tk fun _ _ _ _ h => h) hdb, fun σ H m ρ μ Q M rr h => ?_⟩
  exact ⟨rfl, m, μ, [], M, .nil, h⟩
end
def rho0 (N : Nat) (ss : List S) : Rho := ss.map some ++ List.replicate (N - ss.length) none
/-- what is handed back; the def's own cells are forgotten -/
def retS (n : Nat) (s : S) (μ' : Mu) : Out S := match s with
  | .d d => .ok (.d d) (μ'.take n)
  | .c k => if k < n then .ok (.c k) (μ'.take n) else match μ'[k]? with
    | some c => .ok (.c n) (μ'.take n ++ [c])
    | none => .stk
def fnD (N : Nat) (body : FS) : List S → Mu → Out S := fun ss μ => match body (rho0 N ss) μ with
  | .nx _ μ' => .ok (.d .non) (μ'.take μ.length)
  | .rt s μ' => retS μ.length s μ'
  | .exc x _ μ' => .exc x (μ'.take μ.length)
  | _ => .stk
section
variable {K : PySem.W.Frag} {mg : Str → Option Value} {m m' : Mc} {H H' : Hp} {μ μ' : Mu}
/-- the younger cells forgotten -/
theorem Mem.cut (M : Mem K mg m μ H) (M' : Mem K mg m' μ' H') (e : Ext m m') : Ext m { m' with al := m.al } ∧ Mem K mg { m' with al := m.al } (μ'.take μ.length) H' := by
  obtain ⟨β, eb⟩ := e.pre
  refine ⟨⟨⟨[], by simp⟩, e.same, e.fix⟩, M'.sub, M'.fix, fun a o h => ?_, ?_, ?_, fun k a c h1 h2 => ?_⟩
  · obtain ⟨q1, q2⟩ := M'.dis a o h
    exact ⟨q1, fun z => q2 (by rw [eb]; exact List.mem_append_left _ z)⟩
  · show m.al.length = _
    rw [List.length_take, M.len]
    have := M'.len
    rw [eb, List.length_append, M.len] at this
    omega
  · have := M'.nd
    rw [eb, List.nodup_append] at this
    exact this.1
  · have hk : k < m.al.length := get_lt h1
    have h2' : μ'[k]? = some c := by
      rw [List.getElem?_take] at h2
      split at h2
      · exact h2
      · cases h2
    exact M'.cell k a c (e.get h1) h2'
theorem SAll.rho {ss : List S} {vs : List V} (r : SAll K mg m ss vs) {N : List Str} (h : vs.length ≤ N.length) : RhoIs K mg m (rho0 N.length ss) (L2.start N vs) := by
  have hl := r.length
  refine ⟨?_, fun i s hi => ?_⟩
  · unfold L2.start rho0
    simp only [List.length_append, List.length_map, List.length_replicate]
    omega
  · unfold rho0 at hi
    unfold L2.start
    have hi2 : i < ss.length := by
      by_cases q : i < ss.length
      · exact q
      · rw [List.getElem?_append_right (by simpa using q), List.getElem?_replicate] at hi
        split at hi <;> cases hi
    rw [List.getElem?_append_left (by simpa using hi2), List.getElem?_map] at hi
    rw [List.getElem?_append_left (by rw [List.length_map, ← hl]; exact hi2), List.getElem?_map]
    have key : ∀ {ss : List S} {vs : List V} (i : Nat), SAll K mg m ss vs → ∀ s, ss[i]? = some s → ∃ v, vs[i]? = some v ∧ SIs K mg m s v := by
      intro ss vs i r
      induction r generalizing i with
      | nil => intro s h; simp at h
      | cons a q ih =>
        intro s h
        cases i with
        | zero => simp at h; subst h; exact ⟨_, rfl, a⟩
        | succ i =>
          obtain ⟨v, h1, h2⟩ := ih i s (by simpa using h)
          exact ⟨v, by simpa using h1, h2⟩
    cases e : ss[i]? with
    | none => rw [e] at hi; cases hi
    | some s' =>
      rw [e] at hi
      cases hi
      obtain ⟨v, h1, h2⟩ := key i r s e
      exact ⟨v, by rw [h1]; rfl, h2⟩
theorem retS_wp {s : S} {Q : V → Hp → Prop} {E : XK} (M : Mem K mg m μ H) (h : wpE K mg m (retS μ.length s μ') Q E) : ∀ v H' m', Ext m m' → Mem K mg m' μ' H' → SIs K mg m' s v → Q v H' := by
  intro v H' m' e M' r
  obtain ⟨e2, M2⟩ := M.cut M' e
  unfold retS at h
  split at h
  · exact h v H' _ e2 M2 r
  · rename_i k
    split at h
    · rename_i hk
      refine h v H' _ e2 M2 ?_
      obtain ⟨a, h1, h2⟩ := r
      refine ⟨a, ?_, h2⟩
      obtain ⟨β, eb⟩ := e.pre
      rw [eb, List.getElem?_append_left (by rw [M.len]; exact hk)] at h1
      exact h1
    · rename_i hk
      split at h
      · rename_i c hc
        obtain ⟨a, h1, h2⟩ := r
        obtain ⟨β, eb⟩ := e.pre
        have na : a ∉ m.al := fun z => by
          obtain ⟨j, hj, ej⟩ := List.mem_iff_getElem.mp z
          have g1 : m'.al[j]? = some a := e.get (by rw [List.getElem?_eq_getElem hj, ej])
          have := nodup_get M'.nd g1 h1
          rw [M.len] at hj
          omega
        refine h v H' { m' with al := m.al ++ [a] } ⟨⟨[a], rfl⟩, e.same, e.fix⟩ ⟨M'.sub, M'.fix, fun b o hb => ?_, ?_, ?_, fun j b c' g1 g2 => ?_⟩ ⟨a, ?_, h2⟩
        · obtain ⟨q1, q2⟩ := M2.dis b o hb
          refine ⟨q1, fun z => ?_⟩
          rcases List.mem_append.mp (show b ∈ m.al ++ [a] from z) with z | z
          · exact q2 z
          · have : b = a := by simpa using z
            subst this
            exact (M'.dis b o hb).2 (List.mem_of_getElem? h1)
        · have := M2.len
          show (m.al ++ [a]).length = _
          rw [List.length_append, List.length_append]
          have : m.al.length = (μ'.take μ.length).length := this
          rw [this]; rfl
        · show (m.al ++ [a]).Nodup
          rw [List.nodup_append]
          refine ⟨M.nd, by simp, fun x hx y hy exy => ?_⟩
          have : y = a := by simpa using hy
          subst this; subst exy
          exact na hx
        · have g1 : (m.al ++ [a])[j]? = some b := g1
          have el : m.al.length = (μ'.take μ.length).length := M2.len
          by_cases hj : j < m.al.length
          · rw [List.getElem?_append_left hj] at g1
            rw [List.getElem?_append_left (by rw [← el]; exact hj)] at g2
            exact M2.cell j b c' g1 g2
          · rw [List.getElem?_append_right (by omega)] at g1
            rw [List.getElem?_append_right (by omega)] at g2
            have j0 : j - m.al.length = 0 := by
              cases hz : j - m.al.length with
              | zero => rfl
              | succ n => rw [hz] at g1; simp at g1
            rw [j0] at g1
            rw [← el, j0] at g2
            cases g1; cases g2
            exact M'.cell k a c h1 hc
        · show (m.al ++ [a])[μ.length]? = some a
          rw [← M.len]; simp
      · exact h.elim
end
section
variable {P : Program} {w : World} {K : PySem.W.Frag} {mg : Str → Option Value} {base : Heap}
/-- THE RULE for a def -/
theorem fn_ok {x : Str} {st : Stmt} {f : Addr} {fd : FuncData} {N ps : List Str} {k : Nat} {body : FS} (F : Fun K x x st f fd) (S : FnScope N ps (defScope st))
    (h : ∀ (cdv : Value) (A : Around) (outer : List Env) (s : Shared) (H : Hp) (E : XK), Room k (A.deeper (envOfC x (defScope st) s.heap.objs.size f cdv)) → DSs (cxOf (L2.CX P w) P w K mg base N x (defScope st) f cdv A outer s H E) (fun c d _ H => E c d H) (defBody st) body) :
    FnOk P w K mg base (L2.CX P w) (k + 1) f fd ps (spD K mg ps.length (fnD N.length body)) := by
  refine F.okX S (fun vs H Q E h => h.1) fun cdv A outer s H vs Q E hr hsp => ?_
  obtain ⟨hl, m, μ, ss, M, rs, hw⟩ := hsp
  obtain ⟨t, pt, qt⟩ := (h cdv A outer s H E hr).ex
  have hN : vs.length ≤ N.length := by
    have := congrArg List.length S.pre
    rw [List.length_take] at this
    omega
  refine ⟨t, pt, qt (L2.start N vs) H m (rho0 N.length ss) μ _ M (rs.rho hN) ?_⟩
  unfold fnD at hw
  cases e : body (rho0 N.length ss) μ with
  | stk => rw [e] at hw; exact hw
  | nx ρ μ' =>
    rw [e] at hw
    intro σ' H' m' x M' _
    obtain ⟨e2, M2⟩ := M.cut M' x
    exact hw .non H' _ e2 M2 .non
  | rt s μ' =>
    rw [e] at hw
    exact retS_wp M hw
  | bk ρ μ' => rw [e] at hw; exact hw.elim
  | ct ρ μ' => rw [e] at hw; exact hw.elim
  | exc x ρ μ' =>
    rw [e] at hw
    intro cls d σ' H' m' x M' _ q
    obtain ⟨e2, M2⟩ := M.cut M' x
    exact hw cls d H' _ e2 M2 q
/-- nothing is promised of a def that is called too deep -/
theorem fn_none {f : Addr} {fd : FuncData} {ps : List Str} {k : Nat} : FnOk P w K mg base (L2.CX P w) k f fd ps (spD K mg ps.length fun _ _ => .stk) :=
  ⟨fun vs H Q E h => h.1, fun A outer s H args us vs Q E _ _ _ _ hsp => by obtain ⟨_, m, μ, ss, M, rs, hw⟩ := hsp; exact hw.elim⟩
/-- another function that gives the same where it gives something -/
theorem fn_as {f : Addr} {fd : FuncData} {ps : List Str} {k n : Nat} {g g' : List S → Mu → Out S} (F : FnOk P w K mg base (L2.CX P w) k f fd ps (spD K mg n g)) (h : ∀ ss μ, g' ss μ = .stk ∨ g ss μ = g' ss μ) : FnOk P w K mg base (L2.CX P w) k f fd ps (spD K mg n g') :=
  F.imp fun vs H Q E ⟨hl, m, μ, ss, M, rs, hw⟩ => ⟨hl, m, μ, ss, M, rs, by
    rcases h ss μ with z | z
    · rw [z] at hw; exact hw.elim
    · rw [z]; exact hw⟩
end

/-! ### what is walked -/
section
variable {X : Cx} {W : WX} {e e2 tg : Expr} {es : List Expr} {f : FE} {fa : FA} {p pos : Pos} {K : PySem.W.Frag} {mg : Str → Option Value}
theorem walks_list {a : Addr} {l : List D} {vs : List V} {F : Hp} (h : F a = some (.lst vs)) (r : IsA K mg F l vs) : Walks K mg (Itl K a) l F := by
  refine ⟨fun i H F2 s1 s2 hi => ?_, fun i H F2 s1 s2 hi => ⟨vs, SqL.of (s2 _ _ (s1 _ _ h)), by rw [← r.length]; exact hi⟩, fun i H m2 μ x H' d s1 M hd y => ?_⟩
  · refine ⟨vs, vs[i]'(by rw [← r.length]; exact hi), SqL.of (s2 _ _ (s1 _ _ h)), by simp [r.length ▸ hi]⟩
  · obtain ⟨rfl, y⟩ := y
    obtain ⟨v, h1, h2⟩ := r.get hd
    have := y vs (SqL.of (M.sub _ _ (s1 _ _ h)))
    rw [h1] at this
    cases this
    exact ⟨m2, .refl, M, h2.mono s1⟩
theorem walks_tup {a : Addr} {l : List D} {vs : List V} {F : Hp} (h : SqT K F a vs) (r : IsA K mg F l vs) : Walks K mg (Itt K a) l F := by
  refine ⟨fun i H F2 s1 s2 hi => ?_, fun i H F2 s1 s2 hi => ⟨vs, Same.sqt s2 (Same.sqt s1 h), by rw [← r.length]; exact hi⟩, fun i H m2 μ x H' d s1 M hd y => ?_⟩
  · refine ⟨vs, vs[i]'(by rw [← r.length]; exact hi), Same.sqt s2 (Same.sqt s1 h), by simp [r.length ▸ hi]⟩
  · obtain ⟨rfl, y⟩ := y
    obtain ⟨v, h1, h2⟩ := r.get hd
    have := y vs (Same.sqt M.sub (Same.sqt s1 h))
    rw [h1] at this
    cases this
    exact ⟨m2, .refl, M, h2.mono s1⟩
def upD (lo : Int) : Nat → List D
  | 0 => []
  | n + 1 => .int lo :: upD (lo + 1) n
theorem upD_len : ∀ (n : Nat) (lo : Int), (upD lo n).length = n
  | 0, _ => rfl
  | n + 1, lo => by unfold upD; rw [List.length_cons, upD_len n]
theorem upD_get : ∀ (n i : Nat) (lo : Int), i < n → (upD lo n)[i]? = some (.int (lo + i))
  | n + 1, 0, lo, _ => by unfold upD; simp
  | n + 1, i + 1, lo, h => by
    unfold upD
    rw [List.getElem?_cons_succ, upD_get n i (lo + 1) (by omega)]
    congr 2
    omega
theorem walks_range {lo : Int} {n : Nat} {F : Hp} : Walks K mg (Itr lo n) (upD lo n) F := by
  refine ⟨fun i H F2 s1 s2 hi => by rw [upD_len] at hi; exact hi, fun i H F2 s1 s2 hi => by rw [upD_len] at hi; exact hi, fun i H m2 μ x H' d s1 M hd y => ?_⟩
  obtain ⟨rfl, rfl⟩ := y
  have hi : i < n := by
    have := get_lt hd
    rw [upD_len] at this; exact this
  rw [upD_get n i lo hi] at hd
  cases hd
  exact ⟨m2, .refl, M, .int _⟩
/-- a list or a tuple, whichever it is -/
def iAny (K : PySem.W.Frag) (tl : TE) : TI := fun σ H R => tl σ H fun x H1 => ∃ a, x = .ref a ∧ (((∃ xs, SqL K H1 a xs) ∧ R (Itl K a) H1) ∨ ((∃ xs, SqT K H1 a xs) ∧ R (Itt K a) H1))
theorem pi_any {l : Expr} {tl : TE} (hl : PE X l tl) : PI X tg l (iAny X.K tl) := by
  refine ⟨fun pins s σ H R I h => ?_⟩
  refine thn (hl.run pins s σ H _ I h) fun v s1 ⟨x, H1, I1, r1, q1⟩ => ?_
  obtain ⟨a, e, q⟩ := q1
  subst e
  cases r1
  rcases q with ⟨⟨xs, hq⟩, q⟩ | ⟨⟨xs, hq⟩, q⟩
  · obtain ⟨its, rv, p, hz⟩ := I1.list hq
    refine wpAny_pyIter_list p.isList ?_
    refine ⟨s1.heap.objs.size, [s1.heap.objs.size], _, _, H1, rfl, I1.kept (t' := s1.toks) fun b o e => Heap.get?_push_of_some _ e, turn_list a _, ⟨_, Heap.get?_push_size _ rfl, rfl, rfl⟩, fun b hb => ?_, q⟩
    have e : b = s1.heap.objs.size := by simpa using hb
    subst e
    exact I1.fpOk (Nat.le_refl _) (I1.hok.fresh (Nat.le_refl _))
  · obtain ⟨its, rv, p, hz⟩ := I1.tuple hq
    refine wpAny_pyIter_tuple (show s1.heap.IsTuple a its.toArray from p) ?_
    refine ⟨s1.heap.objs.size, [s1.heap.objs.size], _, _, H1, rfl, I1.kept (t' := s1.toks) fun b o e => Heap.get?_push_of_some _ e, turn_tuple a _, ⟨_, Heap.get?_push_size _ rfl, rfl, rfl⟩, fun b hb => ?_, q⟩
    have e : b = s1.heap.objs.size := by simpa using hb
    subst e
    exact I1.fpOk (Nat.le_refl _) (I1.hok.fresh (Nat.le_refl _))
def seqOf (s : S) (μ : Mu) : Out (List D) := match s with
  | .d (.lst l) => .ok l μ
  | .d (.tup l) => .ok l μ
  | _ => .stk
def iSeq (f : FE) : FI := fun ρ μ => (f ρ μ).bind seqOf
theorem di_seq (he : DE X W e f) : DI X W tg e (iSeq f) := by
  obtain ⟨te, pe, qe⟩ := he.ex
  refine .in ⟨_, pi_any pe, fun σ H m ρ μ R M rr h => qe σ H m ρ μ _ M rr ?_⟩
  have h : wpI X.K X.mg m ((f ρ μ).bind seqOf) R _ := h
  cases e1 : f ρ μ with
  | stk => rw [e1] at h; exact h
  | exc x μ' => rw [e1] at h; exact h
  | ok s μ1 =>
    rw [e1] at h
    intro v H1 m1 x1 M1 r1
    have h : wpI X.K X.mg m (seqOf s μ1) R _ := h
    cases s with
    | c k => exact h.elim
    | d d =>
      cases d with
      | lst l =>
        have r1 : Is X.K X.mg m1.fr (.lst l) v := r1
        cases r1 with
        | lst ha ia => exact ⟨_, rfl, .inl ⟨⟨_, SqL.of (M1.sub _ _ ha)⟩, h _ H1 m1 x1 M1 (walks_list ha ia)⟩⟩
      | tup l =>
        have r1 : Is X.K X.mg m1.fr (.tup l) v := r1
        cases r1 with
        | tup ha ia => exact ⟨_, rfl, .inr ⟨⟨_, Same.sqt M1.sub ha⟩, h _ H1 m1 x1 M1 (walks_tup ha ia)⟩⟩
      | _ => exact h.elim
def bigR (j : Int) : Prop := -(2 ^ 62) ≤ j ∧ j < 2 ^ 62
instance (j : Int) : Decidable (bigR j) := by unfold bigR; infer_instance
def rng1 (ss : List S) (μ : Mu) : Out (List D) := match ss with
  | [.d (.int j)] => if bigR j then .ok (upD 0 j.toNat) μ else .stk
  | _ => .stk
def rng2 (ss : List S) (μ : Mu) : Out (List D) := match ss with
  | [.d (.int i), .d (.int j)] => if bigR i ∧ bigR j then .ok (upD i (j - i).toNat) μ else .stk
  | _ => .stk
def iRange1 (fa : FA) : FI := fun ρ μ => (fa ρ μ).bind rng1
def iRange2 (fa : FA) : FI := fun ρ μ => (fa ρ μ).bind rng2
theorem wpA_bindI {m : Mc} {o : Out (List S)} {k : List S → Mu → Out (List D)} {R : It → Hp → Prop} {Q' : List V → Hp → Prop} {E : XK} (h : wpI K mg m (o.bind k) R E)
    (hk : ∀ s v μ H' m', Ext m m' → Mem K mg m' μ H' → SAll K mg m' s v → (∀ l μ2, k s μ = .ok l μ2 → ∀ J H2 m2, Ext m' m2 → Mem K mg m2 μ2 H2 → Walks K mg J l m2.fr → R J H2) → (∃ l μ2, k s μ = .ok l μ2) → Q' v H') (hx : ∀ s μ x μ', k s μ ≠ .exc x μ') : wpA K mg m o Q' E := by
  cases o with
  | stk => exact h
  | exc x μ => exact h
  | ok b μ =>
    intro v H' m' e M r
    have h : wpI K mg m (k b μ) R E := h
    cases e1 : k b μ with
    | stk => rw [e1] at h; exact h.elim
    | exc x μ' => exact absurd e1 (hx _ _ _ _)
    | ok l μ2 =>
      rw [e1] at h
      refine hk b v μ H' m' e M r (fun l' μ2' z J H2 m2 e2 M2 w2 => ?_) ⟨l, μ2, e1⟩
      rw [e1] at z
      cases z
      exact h J H2 m2 (e.trans e2) M2 w2
theorem rng1_nx {ss : List S} {μ : Mu} {x : Exn} {μ' : Mu} : rng1 ss μ ≠ .exc x μ' := by
  intro z
  unfold rng1 at z
  split at z
  · split at z <;> cases z
  · cases z
theorem rng2_nx {ss : List S} {μ : Mu} {x : Exn} {μ' : Mu} : rng2 ss μ ≠ .exc x μ' := by
  intro z
  unfold rng2 at z
  split at z
  · split at z <;> cases z
  · cases z
theorem di_range1 (hm : X.mg "range" = none) (ha : DA X W [e] fa) (hg : Gl X "range" := by rfl) (hs : starEach [e] X.env = [(false, eval e X.env)] := by rfl) : DI X W tg (.Call (.Name "range" p) [e] [] pos) (iRange1 fa) := by
  obtain ⟨ta, pa, qa⟩ := ha.ex
  refine .in ⟨_, pi_range1 hg hm pa hs, fun σ H m ρ μ R M rr h => qa σ H m ρ μ _ M rr (wpA_bindI h (fun s v μ H' m' e M' r' hk hz => ?_) fun s μ x μ' => rng1_nx)⟩
  obtain ⟨l, μ2, hl⟩ := hz
  have hk := hk l μ2 hl
  unfold rng1 at hl
  split at hl
  · rename_i j
    split at hl
    · rename_i hj
      cases hl
      cases r' with
      | cons a q =>
        cases q
        cases (show Is X.K X.mg m'.fr (.int j) _ from a)
        exact ⟨j, rfl, hj.1, hj.2, hk _ H' m' .refl M' walks_range⟩
    · cases hl
  · cases hl
theorem di_range2 (hm : X.mg "range" = none) (ha : DA X W [e, e2] fa) (hg : Gl X "range" := by rfl) (hs : starEach [e, e2] X.env = [(false, eval e X.env), (false, eval e2 X.env)] := by rfl) (hs2 : starEach [e2] X.env = [(false, eval e2 X.env)] := by rfl) : DI X W tg (.Call (.Name "range" p) [e, e2] [] pos) (iRange2 fa) := by
  obtain ⟨ta, pa, qa⟩ := ha.ex
  refine .in ⟨_, pi_range2 hg hm pa hs hs2, fun σ H m ρ μ R M rr h => qa σ H m ρ μ _ M rr (wpA_bindI h (fun s v μ H' m' e M' r' hk hz => ?_) fun s μ x μ' => rng2_nx)⟩
  obtain ⟨l, μ2, hl⟩ := hz
  have hk := hk l μ2 hl
  unfold rng2 at hl
  split at hl
  · rename_i i j
    split at hl
    · rename_i hj
      cases hl
      cases r' with
      | cons a q =>
        cases q with
        | cons b q =>
          cases q
          cases (show Is X.K X.mg m'.fr (.int i) _ from a)
          cases (show Is X.K X.mg m'.fr (.int j) _ from b)
          exact ⟨i, j, rfl, ⟨hj.1.1, hj.1.2, hj.2.1, hj.2.2⟩, hk _ H' m' .refl M' walks_range⟩
    · cases hl
  · cases hl

/-! ### targets -/
theorem agree_set {js : List Nat} {σ : L2.St} {i : Nat} {v : V} (h : i ∈ js) : Agree js σ (σ.set i (some v)) := ⟨by simp, fun j hj => by rw [List.getElem?_set_ne (fun z : i = j => hj (by rw [← z]; exact h))]⟩
theorem Agree.trans {js : List Nat} {σ σ1 σ2 : L2.St} (a : Agree js σ σ1) (b : Agree js σ1 σ2) : Agree js σ σ2 := ⟨b.1.trans a.1, fun i hi => (b.2 i hi).trans (a.2 i hi)⟩
def gN (i : Nat) : D → Rho → Option Rho := fun d ρ => some (ρ.set i (some (.d d)))
theorem dg_name {js : List Nat} {i : Nat} {x : Str} (hN : X.N.Nodup) (hi : X.N[i]? = some x) (hx : Loc X.env.scope x) (hj : i ∈ js) (hf : X.fn x = true ∨ X.env.scope.names.lookup x = some .local := by first | exact .inl rfl | exact .inr rfl | assumption) : DG X js (.Name x pos) (gN i) := by
  refine ⟨⟨fun pins s σ H v u Q I r h => ?_⟩⟩
  obtain ⟨m, μ, ρ, d, ρ', M, rr, rd, e, h⟩ := h
  cases e
  exact (pg_name hN hi hx hf).run pins s σ H v u Q I r (h _ (rr.set i (s := .d d) rd) (agree_set hj))
def gsN : List D → Rho → Option Rho
  | [], ρ => some ρ
  | _, _ => none
def gsC (t : D → Rho → Option Rho) (u : List D → Rho → Option Rho) : List D → Rho → Option Rho
  | d :: l, ρ => (t d ρ).bind (u l)
  | [], _ => none
theorem dgs_nil {js : List Nat} : DGs X js [] gsN := by
  refine ⟨⟨fun pins s σ H vs us Q I r h => ?_⟩⟩
  obtain ⟨m, μ, ρ, d, ρ', M, rr, rd, e, h⟩ := h
  cases rd with
  | nil =>
    cases e
    exact pgs_nil.run pins s σ H [] us Q I r ⟨rfl, h σ rr ⟨rfl, fun _ _ => rfl⟩⟩
  | cons _ _ => cases e
theorem dgs_cons {js : List Nat} {t : D → Rho → Option Rho} {u : List D → Rho → Option Rho} (h1 : DG X js e t) (h2 : DGs X js es u) (hs : (assignEach (e :: es) X.env).map (·.2) = assign e X.env :: (assignEach es X.env).map (·.2) := by rfl) : DGs X js (e :: es) (gsC t u) := by
  refine ⟨⟨fun pins s σ H vs us Q I r h => ?_⟩⟩
  obtain ⟨m, μ, ρ, d, ρ', M, rr, rd, e, h⟩ := h
  cases rd with
  | nil => cases e
  | cons a q =>
    rename_i d0 l0 v0 vs0
    have e : (t d0 ρ).bind (u l0) = some ρ' := e
    cases e1 : t d0 ρ with
    | none => rw [e1] at e; cases e
    | some ρ1 =>
      rw [e1] at e
      have e : u l0 ρ1 = some ρ' := e
      refine (pgs_cons h1.pe h2.pe hs).run pins s σ H _ us Q I r ⟨_, _, rfl, m, μ, ρ, d0, ρ1, M, rr, a, e1, fun σ1 r1 g1 => ?_⟩
      exact ⟨m, μ, ρ1, l0, ρ', M, r1, q, e, fun σ2 r2 g2 => h σ2 r2 (g1.trans g2)⟩
def gT (n : Nat) (u : List D → Rho → Option Rho) : D → Rho → Option Rho
  | .tup l, ρ => if l.length = n then u l ρ else none
  | _, _ => none
theorem dg_tup {js : List Nat} {k n : Nat} {u : List D → Rho → Option Rho} (hc : X.calm = true) (h : DGs X js es u) (hn : (assignEach es X.env).length = n := by rfl) (hst : (assignEach es X.env).findIdx? (·.1) = none := by rfl) : DG X js (.Tuple es k pos) (gT n u) := by
  refine ⟨⟨fun pins s σ H v w Q I r h' => ?_⟩⟩
  obtain ⟨m, μ, ρ, d, ρ', M, rr, rd, e, h'⟩ := h'
  unfold gT at e
  split at e
  · rename_i l
    split at e
    · rename_i hl
      cases rd with
      | tup ha ia =>
        exact (pg_tup hc h.pe hn hst).run pins s σ H _ w Q I r ⟨_, _, rfl, Same.sqt M.sub ha, by rw [← ia.length]; exact hl, m, μ, ρ, l, ρ', M, rr, ia, e, h'⟩
    · cases e
  · cases e
end
end GF

set_option maxHeartbeats 2000000
/-! Comprehensions; statements. -/
namespace GF
open PySem PySem.Spec PyProof.Rows L2

/-! ### comprehensions -/
structure DTs (X : Cx) (W : WX) (ifs : List Expr) (f : FB) : Prop where
  pe : PTs X ifs (tT X.K X.mg W f)
def bYes : FB := fun _ μ => .ok true μ
def wipeR (ρ : Rho) : List Nat → Rho
  | [] => ρ
  | v :: vs => (wipeR ρ vs).set v none
/-- the turns of a comprehension: nothing is raised in them -/
def lcD (t : D → Rho → Option Rho) (ft : FB) (fe : FE) (ρ : Rho) : List D → Mu → Out (List D)
  | [], μ => .ok [] μ
  | x :: xs, μ => match t x ρ with
    | none => .stk
    | some ρ1 => match ft ρ1 μ with
      | .ok true μ1 => (match fe ρ1 μ1 with
        | .ok (.d d) μ2 => (match lcD t ft fe ρ xs μ2 with
          | .ok l μ3 => .ok (d :: l) μ3
          | _ => .stk)
        | _ => .stk)
      | .ok false μ1 => lcD t ft fe ρ xs μ1
      | _ => .stk
def mkL (l : List D) (μ : Mu) : Out S := .ok (.d (.lst l)) μ
def eLc (fi : FI) (t : D → Rho → Option Rho) (ft : FB) (fe : FE) (vs : List Nat) : FE := fun ρ μ => (fi ρ μ).bind fun l μ1 => if l.length ≤ cap then (lcD t ft fe (wipeR ρ vs) l μ1).bind mkL else .stk
section
variable {X : Cx} {W : WX} {K : PySem.W.Frag} {mg : Str → Option Value}
theorem dts_nil : DTs X W [] bYes := ⟨⟨fun pins s σ H Q I h => by
  obtain ⟨m, ρ, μ, M, rr, h⟩ := h
  exact pts_nil.run pins s σ H Q I (h H m .refl M)⟩⟩
theorem dts_one {c : Expr} {f : FB} (h : DT X W c f) : DTs X W [c] f := ⟨pts_one h.pe⟩
theorem RhoIs.wipe {m : Mc} {ρ : Rho} {σ : L2.St} (h : RhoIs K mg m ρ σ) : ∀ vs : List Nat, RhoIs K mg m (wipeR ρ vs) (wipe σ vs)
  | [] => h
  | v :: vs => (h.wipe vs).unset v
theorem wipe_in {σ : L2.St} {i : Nat} : ∀ {vs : List Nat}, i ∈ vs → i < σ.length → (wipe σ vs)[i]? = some none
  | v :: vs, h, hl => by
    unfold wipe
    by_cases e : v = i
    · subst e
      rw [List.getElem?_set_self (by rw [wipe_length]; exact hl)]
    · rw [List.getElem?_set_ne e]
      rcases List.mem_cons.mp h with z | z
      · exact absurd z.symm e
      · exact wipe_in z hl
theorem wipe_agree {js vs : List Nat} {σ σ2 : L2.St} (a : Agree js (wipe σ vs) σ2) (h : ∀ j ∈ js, j ∈ vs) : wipe σ2 vs = wipe σ vs := by
  have hl : σ2.length = σ.length := by rw [a.1, wipe_length]
  apply List.ext_getElem?
  intro i
  by_cases hi : i ∈ vs
  · by_cases hb : i < σ.length
    · rw [wipe_in hi hb, wipe_in hi (by rw [hl]; exact hb)]
    · rw [List.getElem?_eq_none (by rw [wipe_length]; omega), List.getElem?_eq_none (by rw [wipe_length]; omega)]
  · rw [wipe_out hi]
    exact a.2 i fun z => hi (h i z)
theorem Mem.unhold {m : Mc} {μ : Mu} {H : Hp} {fx : Hp} {p : Addr} {o : HO} (M : Mem K mg m μ H) (e : m.fx = upd fx p o) (h : fx p = none) : Mem K mg { m with fx := fx } μ H ∧ m.fr p = none ∧ p ∉ m.al ∧ H p = some o := by
  have at_ : m.fx p = some o := by rw [e, upd_same]
  refine ⟨⟨M.sub, fun b x q => ?_, fun b x q => ?_, M.len, M.nd, M.cell⟩, (M.dis p o at_).1, (M.dis p o at_).2, M.fix _ _ at_⟩
  · exact M.fix b x (by rw [e, upd_ne (ne_of_none q h)]; exact q)
  · exact M.dis b x (by rw [e, upd_ne (ne_of_none q h)]; exact q)
theorem RhoIs.same {m m' : Mc} {ρ : Rho} {σ : L2.St} (h : RhoIs K mg m ρ σ) (e1 : m'.al = m.al) (e2 : m'.fr = m.fr) : RhoIs K mg m' ρ σ := by
  refine ⟨h.len, fun i s hi => ?_⟩
  obtain ⟨v, h1, h2⟩ := h.has i s hi
  refine ⟨v, h1, ?_⟩
  cases s with
  | d d => show Is K mg m'.fr d v; rw [e2]; exact h2
  | c k => obtain ⟨a, q1, q2⟩ := h2; exact ⟨a, by rw [e1]; exact q1, q2⟩
def mkLs (ys l : List D) (μ : Mu) : Out S := .ok (.d (.lst (ys ++ l))) μ
def LcW (K : PySem.W.Frag) (mg : Str → Option Value) (m1 : Mc) (L : Addr) (R : Mc → Mu → List D → Prop) (i : Nat) (H' : Hp) : Prop :=
  ∃ mA μA ys vsD, Ext m1 mA ∧ Mem K mg mA μA H' ∧ mA.fr L = none ∧ L ∉ mA.al ∧ mA.fx L = none ∧ H' L = some (.lst vsD) ∧ IsA K mg mA.fr ys vsD ∧ ys.length ≤ i ∧ R mA μA ys
/-- the reading of a comprehension -/
theorem lc_sound {fi : FI} {t : D → Rho → Option Rho} {ft : FB} {fe : FE} {vs js : List Nat} (hj : ∀ j ∈ js, j ∈ vs) {σ : L2.St} {H : Hp} {m : Mc} {ρ : Rho} {μ : Mu} {Q : V → Hp → Prop} (M : Mem K mg m μ H) (rr : RhoIs K mg m ρ σ)
    (h : wpE K mg m (eLc fi t ft fe vs ρ μ) Q (fun c d H' => W c d σ H')) :
    tLc (tI K mg W fi) (tG K mg js t) (tT K mg (fun _ _ _ _ => False) ft) (tE K mg (fun _ _ _ _ => False) fe) vs σ H Q := by
  unfold tLc
  refine ⟨m, ρ, μ, M, rr, ?_⟩
  have h : wpE K mg m ((fi ρ μ).bind fun l μ1 => if l.length ≤ cap then (lcD t ft fe (wipeR ρ vs) l μ1).bind mkL else .stk) Q _ := h
  cases e1 : fi ρ μ with
  | stk => rw [e1] at h; exact h
  | exc x μ' => rw [e1] at h; exact h
  | ok items μ1 =>
    rw [e1] at h
    intro J H1 m1 x1 M1 wk L hL
    have h : wpE K mg m (if items.length ≤ cap then (lcD t ft fe (wipeR ρ vs) items μ1).bind mkL else .stk) Q _ := h
    split at h
    case isFalse => exact h.elim
    rename_i hcap
    have h := h.mono x1
    have rw1 := (rr.mono x1).wipe vs
    refine ⟨fun i msr H' => msr = items.length - i ∧ i ≤ items.length ∧ LcW K mg m1 L (fun mA μA ys => wpE K mg mA ((lcD t ft fe (wipeR ρ vs) (items.drop i) μA).bind (mkLs ys)) Q (fun c d H' => W c d σ H')) i H',
      ⟨items.length, rfl, Nat.zero_le _, m1, μ1, [], [], .refl, M1.side (M1.free hL) (M1.nin hL) (M1.fix.free hL), M1.free hL, M1.nin hL, M1.fix.free hL, upd_same, .nil, Nat.le_refl _, ?_⟩, ?_⟩
    · rw [List.drop_zero]; exact h
    · rintro i msr H2 ⟨rfl, hi, mA, μA, ys, vsD, xA, MA, nf, na, nx, hDl, ia, hy, hw⟩
      by_cases hlt : i < items.length
      · refine .inr ⟨wk.go i H2 mA.fr xA.same MA.sub hlt, fun H' => LcW K mg m1 L (fun mA μA ys => wpE K mg mA ((lcD t ft fe (wipeR ρ vs) (items.drop (i + 1)) μA).bind (mkLs ys)) Q (fun c d H' => W c d σ H')) (i + 1) H',
          fun H' q => ⟨items.length - (i + 1), by omega, rfl, hlt, q⟩, fun x H3 hyl => ?_⟩
        have hd : items[i]? = some items[i] := List.getElem?_eq_getElem hlt
        have MAh := MA.hold hDl nf na
        obtain ⟨m3, x3, M3, is3⟩ := wk.yld i H2 _ μA x H3 _ (show Same m1.fr (mA.hold L (.lst vsD)).fr from xA.same) MAh hd hyl
        have rwA : RhoIs K mg (mA.hold L (.lst vsD)) (wipeR ρ vs) (wipe σ vs) := (rw1.mono xA).same rfl rfl
        have rw3 := rwA.mono x3
        rw [List.drop_eq_getElem_cons hlt] at hw
        -- what is reached behind the turn
        have fin : ∀ (m5 : Mc) (μ5 : Mu) (H5 : Hp), Ext (mA.hold L (.lst vsD)) m5 → Mem K mg m5 μ5 H5 → Ext mA { m5 with fx := mA.fx } ∧ Mem K mg { m5 with fx := mA.fx } μ5 H5 ∧ m5.fr L = none ∧ L ∉ m5.al ∧ H5 L = some (.lst vsD) := fun m5 μ5 H5 x5 M5 => by
          obtain ⟨q1, q2, q3, q4⟩ := M5.unhold (fx := mA.fx) x5.fix nx
          exact ⟨⟨x5.pre, x5.same, rfl⟩, q1, q2, q3, q4⟩
        cases et : t items[i] (wipeR ρ vs) with
        | none =>
          unfold lcD at hw
          rw [et] at hw
          exact hw.elim
        | some ρ1 =>
          unfold lcD at hw
          rw [et] at hw
          refine ⟨m3, μA, wipeR ρ vs, _, ρ1, M3, rw3, is3, et, fun σ2 r2 ag => ⟨wipe_agree ag hj, m3, ρ1, μA, M3, r2, ?_⟩⟩
          dsimp only at hw
          cases eb : ft ρ1 μA with
          | stk => rw [eb] at hw; exact hw.elim
          | exc x μ' => rw [eb] at hw; exact hw.elim
          | ok b μ4 =>
            rw [eb] at hw
            intro H4 m4 x4 M4
            cases b with
            | false =>
              rw [if_neg Bool.false_ne_true]
              obtain ⟨q1, q2, q3, q4, q5⟩ := fin m4 μ4 H4 (x3.trans x4) M4
              exact ⟨_, μ4, ys, vsD, xA.trans q1, q2, q3, q4, nx, q5, ia.mono q1.same, by omega, wpE.mono q1 hw⟩
            | true =>
              rw [if_pos rfl]
              refine ⟨m4, ρ1, μ4, M4, r2.mono x4, ?_⟩
              dsimp only at hw
              cases ee : fe ρ1 μ4 with
              | stk => rw [ee] at hw; exact hw.elim
              | exc x μ' => rw [ee] at hw; exact hw.elim
              | ok s μ5 =>
                rw [ee] at hw
                intro y H5 m5 x5 M5 r5
                cases s with
                | c k => exact hw.elim
                | d d =>
                  obtain ⟨q1, q2, q3, q4, q5⟩ := fin m5 μ5 H5 ((x3.trans x4).trans x5) M5
                  have iy : IsA K mg m5.fr (ys ++ [d]) (vsD ++ [y]) := (ia.mono q1.same).append (.cons r5 .nil)
                  refine ⟨vsD, q5, ?_, _, μ5, ys ++ [d], vsD ++ [y], xA.trans q1, q2.side q3 q4 nx, q3, q4, nx, upd_same, iy, by rw [List.length_append]; simp; omega, ?_⟩
                  · rw [← ia.length, sizeLine_eq]
                    unfold cap at hcap
                    omega
                  · dsimp only at hw
                    show wpE K mg _ ((lcD t ft fe (wipeR ρ vs) (items.drop (i + 1)) μ5).bind (mkLs (ys ++ [d]))) Q _
                    cases el : lcD t ft fe (wipeR ρ vs) (items.drop (i + 1)) μ5 with
                    | stk => rw [el] at hw; exact hw.elim
                    | exc x μ' => rw [el] at hw; exact hw.elim
                    | ok l μ6 =>
                      rw [el] at hw
                      have hw : wpE K mg mA (mkLs ys (d :: l) μ6) Q (fun c d H' => W c d σ H') := hw
                      show wpE K mg { m5 with fx := mA.fx } (mkLs (ys ++ [d]) l μ6) Q _
                      have e2 : mkLs (ys ++ [d]) l μ6 = mkLs ys (d :: l) μ6 := by unfold mkLs; simp
                      rw [e2]
                      exact wpE.mono q1 hw
      · refine .inl ⟨wk.stop i H2 mA.fr xA.same MA.sub (by omega), ?_⟩
        rw [List.drop_of_length_le (by omega)] at hw
        have hw : wpE K mg mA (.ok (.d (.lst (ys ++ []))) μA) Q _ := hw
        rw [List.append_nil] at hw
        exact hw _ _ (mA.add L _) (ext_add nf _) (MA.settle hDl nf na nx) (.lst upd_same (ia.mono (same_add nf _)))
theorem de_lc {vs : List Nat} {elt tg iter : Expr} {ifs : List Expr} {scope : Scope} {own : List (Str × Nat)} {pos : Pos} {fi : FI} {t : D → Rho → Option Rho} {ft : FB} {fe : FE} {js : List Nat} (hc : X.calm = true) (hN : X.N.Nodup) (hi : DI X W tg iter fi) (ok : BlkOk X.N X.env.scope scope own)
    (hg : ∀ (s : Shared) (H : Hp) (C : Addr) (cl : List (Str × Addr)) (fp : List Addr), DG (X.blk s H scope (compEnvC scope cl C X.env) fp) js tg t) (ht : ∀ (s : Shared) (H : Hp) (C : Addr) (cl : List (Str × Addr)) (fp : List Addr), DTs (X.blk s H scope (compEnvC scope cl C X.env) fp) (fun _ _ _ _ => False) ifs ft)
    (he : ∀ (s : Shared) (H : Hp) (C : Addr) (cl : List (Str × Addr)) (fp : List Addr), DE (X.blk s H scope (compEnvC scope cl C X.env) fp) (fun _ _ _ _ => False) elt fe) (hv : own.map (·.2) = vs) (hj : ∀ j ∈ js, j ∈ vs) (hs : ∀ x, foldedSetIterable iter X.env x = pure x := by intro _; rfl) :
    DE X W (.ListComp elt [⟨tg, iter, ifs, 0⟩] scope pos) (eLc fi t ft fe vs) := by
  subst hv
  exact .in ⟨_, pe_lc hc hN hi.pe ok (fun s H C cl fp => (hg s H C cl fp).pe) (fun s H C cl fp => (ht s H C cl fp).pe) (fun s H C cl fp => (he s H C cl fp).pe) hs, fun σ H m ρ μ Q M rr h => lc_sound hj M rr h⟩
end

/-! ### statements -/
def sNil : FS := fun ρ μ => .nx ρ μ
def sSeq (f g : FS) : FS := fun ρ μ => match f ρ μ with
  | .nx ρ' μ' => g ρ' μ'
  | o => o
/-- an expression's end as a statement's -/
def toS (o : Out S) (ρ : Rho) (k : S → Mu → SO) : SO := match o with
  | .stk => .stk
  | .ok s μ => k s μ
  | .exc x μ => .exc x ρ μ
def sRet (f : FE) : FS := fun ρ μ => toS (f ρ μ) ρ fun s μ' => .rt s μ'
def sRetN : FS := fun _ μ => .rt (.d .non) μ
def sExpr (f : FE) : FS := fun ρ μ => toS (f ρ μ) ρ fun _ μ' => .nx ρ μ'
def sSet (i : Nat) (f : FE) : FS := fun ρ μ => toS (f ρ μ) ρ fun s μ' => .nx (ρ.set i (some s)) μ'
def toSB (o : Out Bool) (ρ : Rho) (k : Bool → Mu → SO) : SO := match o with
  | .stk => .stk
  | .ok s μ => k s μ
  | .exc x μ => .exc x ρ μ
def sIf (c : FB) (f g : FS) : FS := fun ρ μ => toSB (c ρ μ) ρ fun b μ' => if b = true then f ρ μ' else g ρ μ'
def toSA (o : Out (List S)) (ρ : Rho) (k : List S → Mu → SO) : SO := match o with
  | .stk => .stk
  | .ok s μ => k s μ
  | .exc x μ => .exc x ρ μ
def sPar (i j : Nat) (fa : FA) : FS := fun ρ μ => toSA (fa ρ μ) ρ fun ss μ' => match ss with
  | [a, b] => .nx ((ρ.set i (some a)).set j (some b)) μ'
  | _ => .stk
/-- a, b = e -/
def sAsg (t : D → Rho → Option Rho) (f : FE) : FS := fun ρ μ => toS (f ρ μ) ρ fun s μ' => match s with
  | .d d => (match t d ρ with
    | some ρ' => .nx ρ' μ'
    | none => .stk)
  | _ => .stk
section
variable {X : Cx} {W : WX} {st : Stmt} {rest : List Stmt} {f g : FS} {fe : FE} {fb : FB} {fa : FA} {e c : Expr} {pos : Pos} {sts sts2 : List Stmt}
theorem toS_wp {K : PySem.W.Frag} {mg : Str → Option Value} {m : Mc} {o : Out S} {ρ : Rho} {σ : L2.St} {k : S → Mu → SO} {D : Ends} {Q : V → Hp → Prop} (rr : RhoIs K mg m ρ σ) (h : wpS K mg m (toS o ρ k) D W)
    (hk : ∀ s v μ H' m', Ext m m' → Mem K mg m' μ H' → SIs K mg m' s v → wpS K mg m' (k s μ) D W → Q v H') : wpE K mg m o Q (fun c d H' => W c d σ H') := by
  cases o with
  | stk => exact h
  | exc x μ => exact fun c d H' m' e M q => h c d σ H' m' e M (rr.mono e) q
  | ok s μ => exact fun v H' m' e M r => hk s v μ H' m' e M r (wpS.mono (o := k s μ) e h)
theorem toSB_wp {K : PySem.W.Frag} {mg : Str → Option Value} {m : Mc} {o : Out Bool} {ρ : Rho} {σ : L2.St} {k : Bool → Mu → SO} {D : Ends} {Q : Bool → Hp → Prop} (rr : RhoIs K mg m ρ σ) (h : wpS K mg m (toSB o ρ k) D W)
    (hk : ∀ s μ H' m', Ext m m' → Mem K mg m' μ H' → wpS K mg m' (k s μ) D W → Q s H') : wpB K mg m o Q (fun c d H' => W c d σ H') := by
  cases o with
  | stk => exact h
  | exc x μ => exact fun c d H' m' e M q => h c d σ H' m' e M (rr.mono e) q
  | ok s μ => exact fun H' m' e M => hk s μ H' m' e M (wpS.mono (o := k s μ) e h)
theorem toSA_wp {K : PySem.W.Frag} {mg : Str → Option Value} {m : Mc} {o : Out (List S)} {ρ : Rho} {σ : L2.St} {k : List S → Mu → SO} {D : Ends} {Q : List V → Hp → Prop} (rr : RhoIs K mg m ρ σ) (h : wpS K mg m (toSA o ρ k) D W)
    (hk : ∀ s v μ H' m', Ext m m' → Mem K mg m' μ H' → SAll K mg m' s v → wpS K mg m' (k s μ) D W → Q v H') : wpA K mg m o Q (fun c d H' => W c d σ H') := by
  cases o with
  | stk => exact h
  | exc x μ => exact fun c d H' m' e M q => h c d σ H' m' e M (rr.mono e) q
  | ok s μ => exact fun v H' m' e M r => hk s v μ H' m' e M r (wpS.mono (o := k s μ) e h)
theorem dss_nil : DSs X W [] sNil := .in ⟨_, pss_nil, fun σ H m ρ μ D M rr h => h σ H m .refl M rr⟩
theorem seq_sound {t u : TS} (qt : ∀ σ H m ρ μ D, Mem X.K X.mg m μ H → RhoIs X.K X.mg m ρ σ → wpS X.K X.mg m (f ρ μ) D W → t D σ H) (qu : ∀ σ H m ρ μ D, Mem X.K X.mg m μ H → RhoIs X.K X.mg m ρ σ → wpS X.K X.mg m (g ρ μ) D W → u D σ H)
    {σ : L2.St} {H : Hp} {m : Mc} {ρ : Rho} {μ : Mu} {D : Ends} (M : Mem X.K X.mg m μ H) (rr : RhoIs X.K X.mg m ρ σ) (h : wpS X.K X.mg m (sSeq f g ρ μ) D W) : tSeq t u D σ H := by
  refine qt σ H m ρ μ _ M rr ?_
  unfold sSeq at h
  cases e1 : f ρ μ with
  | stk => rw [e1] at h; exact h
  | nx ρ' μ' => rw [e1] at h; exact fun σ' H' m' e M' r' => qu σ' H' m' ρ' μ' D M' r' (wpS.mono (o := g ρ' μ') e h)
  | rt s μ' => rw [e1] at h; exact h
  | bk ρ' μ' => rw [e1] at h; exact h
  | ct ρ' μ' => rw [e1] at h; exact h
  | exc x ρ' μ' => rw [e1] at h; exact h
theorem dss_cons (h1 : DS X W st f) (h2 : DSs X W rest g) : DSs X W (st :: rest) (sSeq f g) := by
  obtain ⟨t, pt, qt⟩ := h1.ex
  obtain ⟨u, pu, qu⟩ := h2.ex
  exact .in ⟨_, pss_cons pt pu, fun σ H m ρ μ D M rr h => seq_sound qt qu M rr h⟩
theorem dss_one (h1 : DS X W st f) : DSs X W [st] f := by
  obtain ⟨t, pt, qt⟩ := h1.ex
  exact .in ⟨_, pss_one pt, qt⟩
theorem ds_ret (he : DE X W e fe) : DS X W (.Return (some e) pos) (sRet fe) := by
  obtain ⟨t, pt, qt⟩ := he.ex
  exact .in ⟨_, ps_ret pt, fun σ H m ρ μ D M rr h => qt σ H m ρ μ _ M rr (toS_wp rr h fun s v μ H' m' e M' r' h' => h' v H' m' .refl M' r')⟩
theorem ds_retN : DS X W (.Return none pos) sRetN := .in ⟨_, ps_retN, fun σ H m ρ μ D M rr h => h .non H m .refl M .non⟩
theorem ds_expr (he : DE X W e fe) (hs : swapsWith e none pos.line X.env = pure false := by rfl) : DS X W (.Expr e pos) (sExpr fe) := by
  obtain ⟨t, pt, qt⟩ := he.ex
  exact .in ⟨_, ps_expr pt hs, fun σ H m ρ μ D M rr h => qt σ H m ρ μ _ M rr (toS_wp rr h fun s v μ H' m' e M' r' h' => h' σ H' m' .refl M' (rr.mono e))⟩
theorem ds_set {i : Nat} {x : Str} {pos' : Pos} (hN : X.N.Nodup) (hi : X.N[i]? = some x) (hx : Loc X.env.scope x) (he : DE X W e fe) (hs : swapsWith e (some (.Name x pos')) pos.line X.env = pure false := by rfl)
    (hf : X.fn x = true ∨ X.env.scope.names.lookup x = some .local := by first | exact .inl rfl | exact .inr rfl | assumption) : DS X W (.Assign [.Name x pos'] e pos) (sSet i fe) := by
  obtain ⟨t, pt, qt⟩ := he.ex
  exact .in ⟨_, ps_set hN hi hx pt hs hf, fun σ H m ρ μ D M rr h => qt σ H m ρ μ _ M rr (toS_wp rr h fun s v μ H' m' e M' r' h' => h' _ H' m' .refl M' ((rr.mono e).set i r'))⟩
theorem ds_asg {tg : Expr} {js : List Nat} {t : D → Rho → Option Rho} (he : DE X W e fe) (hg : DG X js tg t) (hs : swapsWithSole [tg] e pos.line X.env = pure false := by rfl) (hw : swappedStores [tg] e X.env = pure none := by rfl)
    (h1 : (assignEach [tg] X.env).map (·.2) = [assign tg X.env] := by rfl) : DS X W (.Assign [tg] e pos) (sAsg t fe) := by
  obtain ⟨te, pt, qt⟩ := he.ex
  refine .in ⟨_, ps_asg pt hg.pe hs hw h1, fun σ H m ρ μ D M rr h => qt σ H m ρ μ _ M rr (toS_wp rr h fun s v μ H' m' e M' r' h' => ?_)⟩
  cases s with
  | c k => exact h'.elim
  | d d =>
    dsimp only at h'
    split at h'
    · rename_i ρ' hρ
      exact ⟨m', μ, ρ, d, ρ', M', rr.mono e, r', hρ, fun σ' r2 _ => h' σ' H' m' .refl M' r2⟩
    · exact h'.elim
theorem ds_if (hc : DT X W c fb) (ha : DSs X W sts f) (hb : DSs X W sts2 g) : DS X W (.If c sts sts2 pos) (sIf fb f g) := by
  obtain ⟨tc, pc, qc⟩ := hc.ex
  obtain ⟨t, pt, qt⟩ := ha.ex
  obtain ⟨u, pu, qu⟩ := hb.ex
  refine .in ⟨_, ps_if pc pt pu, fun σ H m ρ μ D M rr h => qc σ H m ρ μ _ M rr (toSB_wp rr h fun b μ H' m' e M' h' => ?_)⟩
  cases b with
  | true => exact iteT (qt σ H' m' ρ μ D M' (rr.mono e) h')
  | false => exact iteF (qu σ H' m' ρ μ D M' (rr.mono e) h')
theorem ds_par {i j : Nat} {x y : Str} {a b : Expr} {px py pt : Pos} {kt k2 pt2} (hc : X.calm = true) (hN : X.N.Nodup) (hi : X.N[i]? = some x) (hj : X.N[j]? = some y) (hij : i ≠ j)
    (hx : X.env.scope.names.lookup x = some .local) (hy : X.env.scope.names.lookup y = some .local) (ha : DA X W [a, b] fa)
    (hp : ∀ {ta : TA}, PA X [a, b] ta → PS X (.Assign [.Tuple [.Name x px, .Name y py] kt pt] (.Tuple [a, b] k2 pt2) pos) (tPar i j ta)) : DS X W (.Assign [.Tuple [.Name x px, .Name y py] kt pt] (.Tuple [a, b] k2 pt2) pos) (sPar i j fa) := by
  obtain ⟨ta, pa, qa⟩ := ha.ex
  refine .in ⟨_, hp pa, fun σ H m ρ μ D M rr h => qa σ H m ρ μ _ M rr (toSA_wp rr h fun ss vs μ H' m' e M' r' h' => ?_)⟩
  cases r' with
  | nil => exact h'.elim
  | cons a q =>
    cases q with
    | nil => exact h'.elim
    | cons b q =>
      cases q with
      | nil => exact ⟨_, _, rfl, h' _ H' m' .refl M' (((rr.mono e).set i a).set j b)⟩
      | cons _ _ => exact h'.elim
/-- a name's cell is settled from here on -/
def sFrz (i : Nat) (f : FS) : FS := fun ρ μ => match ρ[i]? with
  | some (some (.c k)) => (match μ[k]? with
    | some (.lst l) => f (ρ.set i (some (.d (.lst l)))) (μ.set k .dead)
    | _ => .stk)
  | _ => .stk
theorem set_same {σ : L2.St} {i : Nat} {o : Option V} (h : σ[i]? = some o) : σ.set i o = σ := by
  apply List.ext_getElem?
  intro j
  by_cases e : i = j
  · subst e
    rw [List.getElem?_set_self (get_lt h), h]
  · rw [List.getElem?_set_ne e]
theorem dss_frz (i : Nat) (h1 : DSs X W sts f) : DSs X W sts (sFrz i f) := by
  obtain ⟨t, pt, qt⟩ := h1.ex
  refine .in ⟨_, pt, fun σ H m ρ μ D M rr h => ?_⟩
  unfold sFrz at h
  split at h
  · rename_i k hk
    split at h
    · rename_i l hl
      obtain ⟨v, e1, a, e2, rfl⟩ := rr.has i _ hk
      obtain ⟨m', x', M', is'⟩ := M.freeze e2 hl
      have r2 := (rr.mono x').set i (s := .d (.lst l)) is'
      rw [set_same e1] at r2
      exact qt σ H m' _ _ D M' r2 (h.mono x')
    · exact h.elim
  · exact h.elim
/-! ### lists changed -/
def putCell (k : Nat) (μ : Mu) (g : List D → Option (List D)) (r : Mu → SO) : SO := match μ[k]? with
  | some (.lst l) => (match g l with
    | some l' => r (μ.set k (.lst l'))
    | none => .stk)
  | _ => .stk
/-- xs.append(e), as a statement -/
def sApp (fx : FE) (fe : FE) : FS := fun ρ μ => toS (fx ρ μ) ρ fun s μ1 => match s with
  | .c k => (match μ1[k]? with
    | some (.lst _) => toS (fe ρ μ1) ρ fun d μ2 => (match d with
      | .d d => putCell k μ2 (fun l => if l.length < cap then some (l ++ [d]) else none) fun μ3 => .nx ρ μ3
      | _ => .stk)
    | _ => .stk)
  | _ => .stk
theorem ds_app {o a : Expr} {fx : FE} {apos cpos : Pos} (ho : DE X W o fx) (ha : DE X W a fe)
    (hp : ∀ {to : TE} {ta : TA}, PE X o to → PA X [a] ta → PS X (.Expr (.Call (.Attribute o "append" apos) [a] [] cpos) pos) (tDrop (tBM X.K "list" rAppend to ta))) (hs : starEach [a] X.env = (false, eval a X.env) :: starEach [] X.env := by rfl) :
    DS X W (.Expr (.Call (.Attribute o "append" apos) [a] [] cpos) pos) (sApp fx fe) := by
  obtain ⟨to, po, qo⟩ := ho.ex
  obtain ⟨ta, pa, qa⟩ := ha.ex
  refine .in ⟨_, hp po (pa_cons pa pa_nil hs), fun σ H m ρ μ D M rr h => qo σ H m ρ μ _ M rr (toS_wp rr h fun s v μ1 H1 m1 e1 M1 r1 h1 => ?_)⟩
  cases s with
  | d d => exact h1.elim
  | c k =>
    dsimp only at h1
    split at h1
    · rename_i l0 hl0
      obtain ⟨p, g1, rfl⟩ := r1
      obtain ⟨vs0, g2, g3⟩ := M1.getC g1 hl0
      refine ⟨.inl ⟨rfl, _, SqL.of g2⟩, qa σ H1 m1 ρ μ1 _ M1 (rr.mono e1) (toS_wp (rr.mono e1) h1 fun s2 v2 μ2 H2 m2 e2 M2 r2 h2 => ?_)⟩
      cases s2 with
      | c k => exact h2.elim
      | d d =>
        dsimp only at h2
        unfold putCell at h2
        split at h2
        · rename_i l hl
          obtain ⟨vs, g4, g5⟩ := M2.getC (e2.get g1) hl
          split at h2
          · rename_i l' hl'
            dsimp only at hl'
            split at hl'
            · rename_i hc
              cases hl'
              refine ⟨p, vs, v2, rfl, rfl, g4, by rw [← g5.length, sizeLine_eq]; unfold cap at hc; omega, ?_⟩
              exact h2 σ _ m2 .refl (M2.put (e2.get g1) hl (g5.append (.cons r2 .nil))) ((rr.mono e1).mono e2)
            · cases hl'
          · exact h2.elim
        · exact h2.elim
    · exact h1.elim
/-- xs[i] = e -/
def sSub (fx fi fe : FE) : FS := fun ρ μ => toS (fe ρ μ) ρ fun d μ1 => toS (fx ρ μ1) ρ fun s μ2 => toS (fi ρ μ2) ρ fun i μ3 => match d, s, i with
  | .d d, .c k, .d (.int i) => putCell k μ3 (fun l => (ixN l.length i).map fun j => l.set j d) fun μ4 => .nx ρ μ4
  | _, _, _ => .stk
theorem ds_sub {o i e : Expr} {fx fi : FE} {spos : Pos} (ho : DE X W o fx) (hi : DE X W i fi) (he : DE X W e fe)
    (hp : ∀ {to ti te : TE}, PE X o to → PE X i ti → PE X e te → PS X (.Assign [.Subscript o i spos] e pos) (tAsg te (gSub to ti rSetL))) : DS X W (.Assign [.Subscript o i spos] e pos) (sSub fx fi fe) := by
  obtain ⟨to, po, qo⟩ := ho.ex
  obtain ⟨ti, pi, qi⟩ := hi.ex
  obtain ⟨te, pe, qe⟩ := he.ex
  refine .in ⟨_, hp po pi pe, fun σ H m ρ μ D M rr h => qe σ H m ρ μ _ M rr (toS_wp rr h fun d v μ1 H1 m1 e1 M1 r1 h1 => ?_)⟩
  refine qo σ H1 m1 ρ μ1 _ M1 (rr.mono e1) (toS_wp (rr.mono e1) h1 fun s v2 μ2 H2 m2 e2 M2 r2 h2 => ?_)
  refine qi σ H2 m2 ρ μ2 _ M2 ((rr.mono e1).mono e2) (toS_wp ((rr.mono e1).mono e2) h2 fun i v3 μ3 H3 m3 e3 M3 r3 h3 => ?_)
  split at h3
  · rename_i d k i
    obtain ⟨p, g1, rfl⟩ := r2
    cases (show Is X.K X.mg m3.fr (.int i) v3 from r3)
    unfold putCell at h3
    split at h3
    · rename_i l hl
      obtain ⟨vs, g4, g5⟩ := M3.getC (e3.get g1) hl
      split at h3
      · rename_i l' hl'
        obtain ⟨j, hj, rfl⟩ := Option.map_eq_some_iff.mp hl'
        refine ⟨p, vs, i, j, rfl, rfl, g4, by rw [← g5.length]; exact hj, ?_⟩
        exact h3 σ _ m3 .refl (M3.put (e3.get g1) hl (g5.set j (Is.mono (e2.trans e3).same r1))) (((rr.mono e1).mono e2).mono e3)
      · exact h3.elim
    · exact h3.elim
  · exact h3.elim

/-! ### loops -/
def forD (t : D → Rho → Option Rho) (body : FS) : List D → FS
  | [] => fun ρ μ => .nx ρ μ
  | d :: ds => fun ρ μ => match t d ρ with
    | none => .stk
    | some ρ1 => match body ρ1 μ with
      | .nx ρ2 μ2 => forD t body ds ρ2 μ2
      | .ct ρ2 μ2 => forD t body ds ρ2 μ2
      | .bk ρ2 μ2 => .nx ρ2 μ2
      | o => o
def toSI (o : Out (List D)) (ρ : Rho) (k : List D → Mu → SO) : SO := match o with
  | .stk => .stk
  | .ok s μ => k s μ
  | .exc x μ => .exc x ρ μ
def sFor (fi : FI) (t : D → Rho → Option Rho) (body : FS) : FS := fun ρ μ => toSI (fi ρ μ) ρ fun l μ1 => forD t body l ρ μ1
theorem ds_for {tg iter : Expr} {fi : FI} {js : List Nat} {t : D → Rho → Option Rho} (hp : PassesOwn (model X.prog X.w) X.A X.env X.xe) (hc : X.calm = true) (hi : DI X W tg iter fi) (hg : DG X js tg t) (hb : DSs X W sts f)
    (hs : ∀ x, foldedSetIterable iter X.env x = pure x := by intro _; rfl) : DS X W (.For tg iter sts [] pos) (sFor fi t f) := by
  obtain ⟨tb, pb, qb⟩ := hb.ex
  refine .in ⟨_, ps_for hp hc hi.pe hg.pe pb hs, fun σ H m ρ μ D M rr h => ?_⟩
  refine ⟨m, ρ, μ, M, rr, ?_⟩
  unfold sFor at h
  cases e1 : fi ρ μ with
  | stk => rw [e1] at h; exact h
  | exc x μ' => rw [e1] at h; exact fun c d H' m' e M q => h c d σ H' m' e M (rr.mono e) q
  | ok items μ1 =>
    rw [e1] at h
    intro J H1 m1 x1 M1 wk
    have h : wpS X.K X.mg m (forD t f items ρ μ1) D W := h
    have h := h.mono x1
    refine ⟨fun i msr σ' H' => msr = items.length - i ∧ i ≤ items.length ∧ ∃ mA ρA μA, Ext m1 mA ∧ Mem X.K X.mg mA μA H' ∧ RhoIs X.K X.mg mA ρA σ' ∧ wpS X.K X.mg mA (forD t f (items.drop i) ρA μA) D W,
      ⟨items.length, rfl, Nat.zero_le _, m1, ρ, μ1, .refl, M1, rr.mono x1, by rw [List.drop_zero]; exact h⟩, ?_⟩
    rintro i msr σ2 H2 ⟨rfl, hi, mA, ρA, μA, xA, MA, rA, hw⟩
    by_cases hlt : i < items.length
    · refine .inr ⟨wk.go i H2 mA.fr xA.same MA.sub hlt, fun σ' H' => ∃ mA ρA μA, Ext m1 mA ∧ Mem X.K X.mg mA μA H' ∧ RhoIs X.K X.mg mA ρA σ' ∧ wpS X.K X.mg mA (forD t f (items.drop (i + 1)) ρA μA) D W,
        fun σ' H' q => ⟨items.length - (i + 1), by omega, rfl, hlt, q⟩, fun x H3 hyl => ?_⟩
      have hd : items[i]? = some items[i] := List.getElem?_eq_getElem hlt
      obtain ⟨m3, x3, M3, is3⟩ := wk.yld i H2 _ μA x H3 _ xA.same MA hd hyl
      rw [List.drop_eq_getElem_cons hlt] at hw
      unfold forD at hw
      cases et : t items[i] ρA with
      | none => rw [et] at hw; exact hw.elim
      | some ρ1 =>
        rw [et] at hw
        refine ⟨m3, μA, ρA, _, ρ1, M3, rA.mono x3, is3, et, fun σ4 r4 _ => ?_⟩
        dsimp only at hw
        refine qb σ4 H3 m3 ρ1 μA _ M3 r4 ?_
        cases eb : f ρ1 μA with
        | stk => rw [eb] at hw; exact hw.elim
        | nx ρ2 μ2 => rw [eb] at hw; exact fun σ' H' m' e M' r' => ⟨m', ρ2, μ2, (xA.trans x3).trans e, M', r', wpS.mono (o := forD t f (items.drop (i + 1)) ρ2 μ2) (x3.trans e) hw⟩
        | ct ρ2 μ2 => rw [eb] at hw; exact fun σ' H' m' e M' r' => ⟨m', ρ2, μ2, (xA.trans x3).trans e, M', r', wpS.mono (o := forD t f (items.drop (i + 1)) ρ2 μ2) (x3.trans e) hw⟩
        | bk ρ2 μ2 => rw [eb] at hw; exact fun σ' H' m' e M' r' => hw σ' H' m' (x3.trans e) M' r'
        | rt s μ2 => rw [eb] at hw; exact fun v H' m' e M' r' => hw v H' m' (x3.trans e) M' r'
        | exc x ρ2 μ2 => rw [eb] at hw; exact fun c d s H' m' e M' r' q => hw c d s H' m' (x3.trans e) M' r' q
    · refine .inl ⟨wk.stop i H2 mA.fr xA.same MA.sub (by omega), ?_⟩
      rw [List.drop_of_length_le (by omega)] at hw
      exact hw σ2 H2 mA .refl MA rA
def whileD (c : FB) (body : FS) : Nat → FS
  | 0 => fun _ _ => .stk
  | n + 1 => fun ρ μ => toSB (c ρ μ) ρ fun b μ1 => if b = true then (match body ρ μ1 with
      | .nx ρ2 μ2 => whileD c body n ρ2 μ2
      | .ct ρ2 μ2 => whileD c body n ρ2 μ2
      | .bk ρ2 μ2 => .nx ρ2 μ2
      | o => o) else .nx ρ μ1
def sWhile (fuel : Rho → Mu → Nat) (c : FB) (body : FS) : FS := fun ρ μ => whileD c body (fuel ρ μ) ρ μ
theorem ds_while (fuel : Rho → Mu → Nat) (hp : PassesOwn (model X.prog X.w) X.A X.env X.xe) (hc : DT X W c fb) (hb : DSs X W sts f) : DS X W (.While c sts [] pos) (sWhile fuel fb f) := by
  obtain ⟨tc, pc, qc⟩ := hc.ex
  obtain ⟨tb, pb, qb⟩ := hb.ex
  refine .in ⟨_, ps_while hp pc pb, fun σ H m ρ μ D M rr h => ?_⟩
  refine ⟨fun n σ' H' => ∃ mA ρA μA, Mem X.K X.mg mA μA H' ∧ RhoIs X.K X.mg mA ρA σ' ∧ wpS X.K X.mg mA (whileD fb f n ρA μA) D W, ⟨fuel ρ μ, m, ρ, μ, M, rr, h⟩, ?_⟩
  rintro n σ2 H2 ⟨mA, ρA, μA, MA, rA, hw⟩
  cases n with
  | zero => exact hw.elim
  | succ n =>
    refine qc σ2 H2 mA ρA μA _ MA rA (toSB_wp (k := fun b μ1 => if b = true then (match f ρA μ1 with
      | .nx ρ2 μ2 => whileD fb f n ρ2 μ2
      | .ct ρ2 μ2 => whileD fb f n ρ2 μ2
      | .bk ρ2 μ2 => .nx ρ2 μ2
      | o => o) else .nx ρA μ1) rA hw fun b μ1 H3 m3 e3 M3 h3 => ?_)
    cases b with
    | false =>
      rw [if_neg Bool.false_ne_true] at h3 ⊢
      exact h3 σ2 H3 m3 .refl M3 (rA.mono e3)
    | true =>
      rw [if_pos rfl] at h3 ⊢
      refine ⟨fun σ' H' => ∃ mA ρA μA, Mem X.K X.mg mA μA H' ∧ RhoIs X.K X.mg mA ρA σ' ∧ wpS X.K X.mg mA (whileD fb f n ρA μA) D W, fun σ' H' q => ⟨n, Nat.lt_succ_self n, q⟩, qb σ2 H3 m3 ρA μ1 _ M3 (rA.mono e3) ?_⟩
      cases eb : f ρA μ1 with
      | stk => rw [eb] at h3; exact h3.elim
      | nx ρ2 μ2 => rw [eb] at h3; exact fun σ' H' m' e M' r' => ⟨m', ρ2, μ2, M', r', wpS.mono (o := whileD fb f n ρ2 μ2) e h3⟩
      | ct ρ2 μ2 => rw [eb] at h3; exact fun σ' H' m' e M' r' => ⟨m', ρ2, μ2, M', r', wpS.mono (o := whileD fb f n ρ2 μ2) e h3⟩
      | bk ρ2 μ2 => rw [eb] at h3; exact fun σ' H' m' e M' r' => h3 σ' H' m' e M' r'
      | rt s μ2 => rw [eb] at h3; exact fun v H' m' e M' r' => h3 v H' m' e M' r'
      | exc x ρ2 μ2 => rw [eb] at h3; exact fun c d s H' m' e M' r' q => h3 c d s H' m' e M' r' q
def sBreak : FS := fun ρ μ => .bk ρ μ
def sCont : FS := fun ρ μ => .ct ρ μ
theorem ds_break : DS X W (.Break pos) sBreak := .in ⟨_, ps_break, fun σ H m ρ μ D M rr h => h σ H m .refl M rr⟩
theorem ds_cont : DS X W (.Continue pos) sCont := .in ⟨_, ps_continue, fun σ H m ρ μ D M rr h => h σ H m .refl M rr⟩
end
section
variable {X : Cx} {W : WX}
/-- name = [..], the comprehension on the name's own line -/
theorem ds_setLc {vs : List Nat} {i : Nat} {y : Str} {py : Pos} {elt tg iter : Expr} {ifs : List Expr} {scope : Scope} {own : List (Str × Nat)} {pos spos : Pos} {fi : FI} {t : D → Rho → Option Rho} {ft : FB} {fe : FE} {js : List Nat} (hc : X.calm = true) (hN : X.N.Nodup) (hy : X.N[i]? = some y) (hyl : X.env.scope.names.lookup y = some .local)
    (hsw : swapsWith (.ListComp elt [⟨tg, iter, ifs, 0⟩] scope pos) (some (.Name y py)) spos.line X.env = pure true) (hi : DI X W tg iter fi) (ok : BlkOk X.N X.env.scope scope own)
    (hg : ∀ (s : Shared) (H : Hp) (C : Addr) (cl : List (Str × Addr)) (fp : List Addr), DG (X.blk s H scope (compEnvC scope cl C X.env) fp) js tg t) (ht : ∀ (s : Shared) (H : Hp) (C : Addr) (cl : List (Str × Addr)) (fp : List Addr), DTs (X.blk s H scope (compEnvC scope cl C X.env) fp) (fun _ _ _ _ => False) ifs ft)
    (he : ∀ (s : Shared) (H : Hp) (C : Addr) (cl : List (Str × Addr)) (fp : List Addr), DE (X.blk s H scope (compEnvC scope cl C X.env) fp) (fun _ _ _ _ => False) elt fe) (hv : own.map (·.2) = vs) (hj : ∀ j ∈ js, j ∈ vs) (hs : ∀ x, foldedSetIterable iter X.env x = pure x := by intro _; rfl) :
    DS X W (.Assign [.Name y py] (.ListComp elt [⟨tg, iter, ifs, 0⟩] scope pos) spos) (sSet i (eLc fi t ft fe vs)) := by
  subst hv
  exact .in ⟨_, ps_setLc hc hN hy hyl hsw hi.pe ok (fun s H C cl fp => (hg s H C cl fp).pe) (fun s H C cl fp => (ht s H C cl fp).pe) (fun s H C cl fp => (he s H C cl fp).pe) hs, fun σ H m ρ μ D M rr h =>
    lc_sound hj M rr (toS_wp rr h fun s v μ H' m' e M' r' h' => h' _ H' m' .refl M' ((rr.mono e).set i r'))⟩
end
end GF

set_option maxHeartbeats 2000000
/-! Short words for printed derivations. -/
namespace GF
open PySem PySem.Spec PyProof.Rows L2
/-- the def x of the module keeps the promise g -/
structure FnAt (P : Program) (w : World) (K : PySem.W.Frag) (mg : Str → Option Value) (base : Heap) (k : Nat) (x : Str) (n : Nat) (g : List S → Mu → Out S) : Prop where
  ex : ∃ f fd ps, FnOk P w K mg base (L2.CX P w) k f fd ps (spD K mg n g) ∧ mg x = some (.ref f) ∧ PySem.W.keepIn K (.ref f) = true ∧ Binds K fd ps []
theorem FnAt.mono {P : Program} {w : World} {K : PySem.W.Frag} {mg : Str → Option Value} {base : Heap} {j k : Nat} {x : Str} {n : Nat} {g : List S → Mu → Out S} (F : FnAt P w K mg base j x n g) (h : j ≤ k) : FnAt P w K mg base k x n g := by
  obtain ⟨f, fd, ps, a, b⟩ := F.ex
  exact ⟨f, fd, ps, a.mono h, b⟩
theorem FnAt.as {P : Program} {w : World} {K : PySem.W.Frag} {mg : Str → Option Value} {base : Heap} {k : Nat} {x : Str} {n : Nat} {g g' : List S → Mu → Out S} (F : FnAt P w K mg base k x n g) (h : ∀ ss μ, g' ss μ = .stk ∨ g ss μ = g' ss μ) : FnAt P w K mg base k x n g' := by
  obtain ⟨f, fd, ps, a, b⟩ := F.ex
  exact ⟨f, fd, ps, fn_as a h, b⟩
section
variable {X : Cx} {W : WX} {e : Expr} {es : List Expr} {fa : FA} {p pos : Pos} {j k n : Nat} {g : List S → Mu → Out S} {x : Str}
theorem dcall (F : FnAt X.prog X.w X.K X.mg X.base j x n g) (hr : Room k X.A) (hjk : j ≤ k) (tk : Takes X W) (ha : DA X W (e :: es) fa)
    (hg : Gl X x := by rfl) (hdb : (x == ("__debug__" : Str)) = false := by decide) (he : starEach (e :: es) X.env = (false, eval e X.env) :: starEach es X.env := by rfl) (hpl : (backTo pos (starEach es X.env)).any (·.1) = false := by rfl) :
    DE X W (.Call (.Name x p) (e :: es) [] pos) (eCall n g fa) := by
  obtain ⟨f, fd, ps, a, b, c, d⟩ := F.ex
  exact de_call a (hr.mono hjk) b c d tk ha hg hdb he hpl
theorem dcall0 {E : XK} (F : FnAt X.prog X.w X.K X.mg X.base j x 0 g) (hr : Room k X.A) (hjk : j ≤ k) (tk : Takes X (fun c d _ H => E c d H))
    (hg : Gl X x := by rfl) (hdb : (x == ("__debug__" : Str)) = false := by decide) : DE X (fun c d _ H => E c d H) (.Call (.Name x p) [] [] pos) (eCall0 g) := by
  obtain ⟨f, fd, ps, a, b, c, d⟩ := F.ex
  exact de_call0 a (hr.mono hjk) b c d tk hg hdb
theorem hr65 {A : Around} {k : Nat} (hr : Room k A) : A.units + 65 < cLine := by have := hr.un; omega
theorem fnAt_mk {P : Program} {w : World} {K : PySem.W.Frag} {mg : Str → Option Value} {base : Heap} {st : Stmt} {f : Addr} {fd : FuncData} {N ps : List Str} {k : Nat} {x : Str} {body : FS} (F : Fun K x x st f fd) (hm : mg x = some (.ref f)) (hb : Binds K fd ps []) (S : FnScope N ps (defScope st))
    (h : ∀ (cdv : Value) (A : Around) (outer : List Env) (s : Shared) (H : Hp) (E : XK), Room k (A.deeper (envOfC x (defScope st) s.heap.objs.size f cdv)) → DSs (cxOf (L2.CX P w) P w K mg base N x (defScope st) f cdv A outer s H E) (fun c d _ H => E c d H) (defBody st) body) :
    FnAt P w K mg base (k + 1) x ps.length (fnD N.length body) := ⟨f, fd, ps, fn_ok F S h, hm, F.kp, hb⟩
/-- where the def x stands in the text -/
structure At (K : PySem.W.Frag) (mg : Str → Option Value) (x : Str) (st : Stmt) (ps : List Str) : Prop where
  ex : ∃ f fd, Fun K x x st f fd ∧ mg x = some (.ref f) ∧ Binds K fd ps []
theorem At.go {P : Program} {w : World} {K : PySem.W.Frag} {mg : Str → Option Value} {base : Heap} {st : Stmt} {N ps : List Str} {k : Nat} {x : Str} {body : FS} (T : At K mg x st ps) (S : FnScope N ps (defScope st))
    (h : ∀ (f : Addr) (cdv : Value) (A : Around) (outer : List Env) (s : Shared) (H : Hp) (E : XK), Room k (A.deeper (envOfC x (defScope st) s.heap.objs.size f cdv)) → DSs (cxOf (L2.CX P w) P w K mg base N x (defScope st) f cdv A outer s H E) (fun c d _ H => E c d H) (defBody st) body) :
    FnAt P w K mg base (k + 1) x ps.length (fnD N.length body) := by
  obtain ⟨f, fd, F, a, b⟩ := T.ex
  exact fnAt_mk F a b S (h f)
theorem At.go' {P : Program} {w : World} {K : PySem.W.Frag} {mg : Str → Option Value} {base : Heap} {st : Stmt} {N ps : List Str} {k k1 n nn : Nat} {x : Str} {body : FS} {g : List S → Mu → Out S} (T : At K mg x st ps) (S : FnScope N ps (defScope st))
    (hk : k1 = k + 1) (hn : n = ps.length) (hN : N.length = nn) (hg : g = fnD nn body)
    (h : ∀ (f : Addr) (cdv : Value) (A : Around) (outer : List Env) (s : Shared) (H : Hp) (E : XK), Room k (A.deeper (envOfC x (defScope st) s.heap.objs.size f cdv)) → DSs (cxOf (L2.CX P w) P w K mg base N x (defScope st) f cdv A outer s H E) (fun c d _ H => E c d H) (defBody st) body) :
    FnAt P w K mg base k1 x n g := by
  subst hk hn hN hg
  exact T.go S h
theorem At.stk {P : Program} {w : World} {K : PySem.W.Frag} {mg : Str → Option Value} {base : Heap} {st : Stmt} {ps : List Str} {k : Nat} {x : Str} (T : At K mg x st ps) : FnAt P w K mg base k x ps.length (fun _ _ => .stk) := by
  obtain ⟨f, fd, F, a, b⟩ := T.ex
  exact ⟨f, fd, ps, fn_none, a, F.kp, b⟩
theorem at_mk {K : PySem.W.Frag} {mg : Str → Option Value} {h : Heap} {x : Str} {st : Stmt} {ps : List Str} {f : Addr} {oc : Value} {od an : Option Addr} {osl : Array (Option Value)} {kV doc pm cdv ct : Value} (X : K.In h) (G : h.Ns mainGlobals mg)
    (a : PySem.W.nsIn K mainGlobals x = some (some (.ref f))) (l : K.lookup f = some ⟨oc, od, .func (PySem.W.fnOf x x (defArgs st) (defBody st) (defScope st) .none kV doc pm an cdv ct), osl⟩)
    (c : PySem.W.codeIn K cdv x = true) (k : PySem.W.keepIn K (.ref f) = true)
    (b : ∀ (kV doc pm : Value) (an : Option Addr) (cdv ct : Value) (us : List Value), us.length = ps.length → bindArgs (PySem.W.fnOf x x (defArgs st) (defBody st) (defScope st) .none kV doc pm an cdv ct) ⟨us, []⟩ = pure (ps.zip us)) : At K mg x st ps :=
  ⟨f, _, fun_mk (st := st) l c k, PySem.W.mg_of X G a, (fun_mk (st := st) l c k).binds b⟩
end
/-- .. with the def's place told: for the law itself -/
theorem fn_go {P : Program} {w : World} {K : PySem.W.Frag} {mg : Str → Option Value} {base : Heap} {st : Stmt} {N ps : List Str} {k k1 n nn : Nat} {x : Str} {body : FS} {g : List S → Mu → Out S} {f : Addr} {fd : FuncData} (F : Fun K x x st f fd) (S : FnScope N ps (defScope st))
    (hk : k1 = k + 1) (hn : n = ps.length) (hN : N.length = nn) (hg : g = fnD nn body)
    (h : ∀ (f : Addr) (cdv : Value) (A : Around) (outer : List Env) (s : Shared) (H : Hp) (E : XK), Room k (A.deeper (envOfC x (defScope st) s.heap.objs.size f cdv)) → DSs (cxOf (L2.CX P w) P w K mg base N x (defScope st) f cdv A outer s H E) (fun c d _ H => E c d H) (defBody st) body) :
    FnOk P w K mg base (L2.CX P w) k1 f fd ps (spD K mg n g) := by
  subst hk hn hN hg
  exact fn_ok F S (h f)
/-- the law's promise -/
def spLaw (K : PySem.W.Frag) : Sp := fun vs H Q _ => ∃ (a : Addr) (ns : List Int), vs = [.ref a] ∧ SqL K H a (ns.map V.int) ∧ ns.length ≤ 63 ∧ ∀ H', Q (.bl true) H'
theorem law_end {P : Program} {w : World} {K : PySem.W.Frag} {mg : Str → Option Value} {base : Heap} {k : Nat} {f : Addr} {fd : FuncData} {ps : List Str} {g : List S → Mu → Out S} (F : FnOk P w K mg base (L2.CX P w) k f fd ps (spD K mg 1 g))
    (h : ∀ ns : List Int, ns.length ≤ 63 → ∃ μ, g [.d (.scr ns)] [] = .ok (.d (.bl true)) μ) : FnOk P w K mg base (L2.CX P w) k f fd ps (spLaw K) := by
  refine F.imp fun vs H Q E ⟨a, ns, e, hS, hl, q⟩ => ?_
  subst e
  obtain ⟨μ, e⟩ := h ns hl
  refine ⟨rfl, ⟨[], H, fun _ => none⟩, [], [.d (.scr ns)], ⟨Same.refl H, fun _ _ z => (by cases z), fun _ _ z => (by cases z), rfl, List.nodup_nil, fun k a c z => (by simp at z)⟩, .cons (.scr hS) .nil, ?_⟩
  rw [e]
  intro v H' m' x M r
  cases (show Is K mg m'.fr (.bl true) v from r)
  exact q H'
/-- a built-in's name is nothing of the module's own -/
structure NoB (mg : Str → Option Value) (x : Str) : Prop where
  no : mg x = none
/-- a name of the module that holds an int -/
structure IntB (mg : Str → Option Value) (x : Str) (i : Int) : Prop where
  is : ∃ t, mg x = some (.int i t)
theorem de_intB {X : Cx} {W : WX} {x : Str} {i : Int} {pos : Pos} (B : IntB X.mg x i) (hg : Gl X x := by rfl) (hd : (x == ("__debug__" : Str)) = false := by decide) : DE X W (.Name x pos) (eC (.int i)) := by
  obtain ⟨t, h⟩ := B.is
  exact de_glob (v := .int i) h ⟨t, rfl⟩ (fun _ => .int i) hg hd
end GF

set_option maxHeartbeats 2000000
/-! What the denotations reckon: the drawing that all laws share. -/
namespace GF
open PySem PySem.Spec PyProof.Rows L2

def G_source : FS :=
      (sSeq (sSet 2 (eC (.int 0)))
      (sSeq (sIf (bT (eOp gtD (eBi lenD (aCons (eV 0) aNil)) (eV 1)))
      (sSet 2 (eBi intD (aCons (eOp ixD (eV 0) (eV 1)) aNil)))
      sNil)
      (sSeq (sSet 3 (eOp modD (eOp addD (eOp addD (eOp mulD (eV 2) (eC (.int 16807))) (eOp mulD (eC (.int 60919)) (eV 1))) (eC (.int 31))) (eC (.int 2147481173))))
      (sSeq (sSet 3 (eOp addD (eOp addD (eOp modD (eOp mulD (eV 3) (eV 3)) (eC (.int 2147481151))) (eOp mulD (eC (.int 2)) (eV 1))) (eC (.int 5))))
      (sRet (eCell (aCons (eIf (bT (eOp geD (eV 2) (eOp powD (eC (.int 10)) (eC (.int 18))))) (eV 2) (eC (.int 0))) (aCons (eV 3) aNil))))))))
def g_source : List S → Mu → Out S := fnD 4 G_source
def G_pick : FS :=
      (sSeq (sIf (bT (eOp gtD (eOp ixD (eV 0) (eC (.int 0))) (eC (.int 0))))
      (sSeq (sSet 2 (eOp modD (eBi intD (aCons (eOp ixD (eV 0) (eC (.int 0))) aNil)) (eV 1)))
      (sSeq (sSub (eV 0) (eC (.int 0)) (eOp fdivD (eBi intD (aCons (eOp ixD (eV 0) (eC (.int 0))) aNil)) (eV 1)))
      (sRet (eV 2))))
      sNil)
      (sSeq (sSub (eV 0) (eC (.int 1)) (eOp modD (eBi intD (aCons (eOp addD (eOp mulD (eOp ixD (eV 0) (eC (.int 1))) (eC (.int 44497))) (eC (.int 9973))) aNil)) (eC (.int 2147483647))))
      (sRet (eOp modD (eOp fdivD (eOp modD (eBi intD (aCons (eOp mulD (eOp ixD (eV 0) (eC (.int 1))) (eOp ixD (eV 0) (eC (.int 1)))) aNil)) (eC (.int 2147483399))) (eC (.int 11))) (eV 1)))))
def g_pick : List S → Mu → Out S := fnD 3 G_pick

theorem mulOk_r {i j : Int} (h1 : -(2 ^ 64) < j) (h2 : j < 2 ^ 64) : mulOk i j = true := by
  unfold mulOk
  rw [decide_eq_true h1, decide_eq_true h2]
  simp
theorem mulOk_l {i j : Int} (h1 : -(2 ^ 64) < i) (h2 : i < 2 ^ 64) : mulOk i j = true := by
  unfold mulOk
  rw [decide_eq_true h1, decide_eq_true h2]
  simp
/-! ### the source: the k-th cell of n, two ints -/
structure Src (μ : Mu) (k n : Nat) : Prop where
  len : μ.length = n
  at_ : ∃ a b, μ[k]? = some (.lst [.int a, .int b])
theorem Src.lt {μ : Mu} {k n : Nat} (h : Src μ k n) : k < n := by
  obtain ⟨a, b, e⟩ := h.at_
  rw [← h.len]; exact get_lt e
theorem Src.set {μ : Mu} {k n : Nat} (h : Src μ k n) (a b : Int) : Src (μ.set k (.lst [.int a, .int b])) k n := by
  have hl := h.lt
  refine ⟨by rw [List.length_set]; exact h.len, a, b, ?_⟩
  rw [List.getElem?_set_self (by rw [h.len]; exact hl)]
/-- only the source has moved on -/
structure Stp (k : Nat) (μ μ' : Mu) : Prop where
  len : μ'.length = μ.length
  oth : ∀ j, j ≠ k → μ'[j]? = μ[j]?
  at_ : ∃ a b, μ'[k]? = some (.lst [.int a, .int b])
theorem Stp.src {k n : Nat} {μ μ' : Mu} (s : Stp k μ μ') (h : Src μ k n) : Src μ' k n := ⟨s.len.trans h.len, s.at_⟩
theorem Stp.trans {k : Nat} {μ μ1 μ' : Mu} (a : Stp k μ μ1) (b : Stp k μ1 μ') : Stp k μ μ' := ⟨b.len.trans a.len, fun j hj => (b.oth j hj).trans (a.oth j hj), b.at_⟩
theorem Src.refl {μ : Mu} {k n : Nat} (h : Src μ k n) : Stp k μ μ := ⟨rfl, fun _ _ => rfl, h.at_⟩
theorem Src.stp {μ : Mu} {k n : Nat} (h : Src μ k n) (a b : Int) : Stp k μ (μ.set k (.lst [.int a, .int b])) :=
  ⟨by rw [List.length_set], fun j hj => List.getElem?_set_ne (Ne.symm hj), (h.set a b).at_⟩
theorem set_get {μ : Mu} {k : Nat} {c c' : Cell} (h : μ[k]? = some c') : (μ.set k c)[k]? = some c := by rw [List.getElem?_set_self (get_lt h)]
theorem pick_ok {μ : Mu} {k n : Nat} {many : Int} (h : Src μ k n) (hm : 0 < many) (hb : many.natAbs.log2 < 9000) :
    ∃ r μ', g_pick [.c k, .d (.int many)] μ = .ok (.d (.int r)) μ' ∧ Stp k μ μ' ∧ 0 ≤ r ∧ r < many := by
  obtain ⟨a, b, e⟩ := h.at_
  unfold g_pick fnD G_pick
  have er : rho0 3 [S.c k, .d (.int many)] = [some (.c k), some (.d (.int many)), none] := rfl
  rw [er]
  by_cases ha : 0 < a
  · refine ⟨a % many, μ.set k (.lst [.int (a / many), .int b]), ?_, h.stp _ _, Int.emod_nonneg _ (by omega), Int.emod_lt_of_pos _ hm⟩
    simp [sSeq, sIf, bT, eOp, eV, eC, op2, view, e, ixD, atI, ixN, cmpD, asB, Out.bind, toSB, ha, sSet, toS, eBi, aCons, aNil, opA, viewA, intD, modD, hm, sSub, fdivD, hb, putCell, sRet, retS]
    rw [List.take_of_length_le (by simp)]
  · obtain ⟨b1, hb1⟩ : ∃ b1 : Int, b1 = (b * 44497 + 9973) % 2147483647 := ⟨_, rfl⟩
    have q0 : 0 ≤ b1 := by rw [hb1]; exact Int.emod_nonneg _ (by decide)
    have q1 : b1 < 2147483647 := by rw [hb1]; exact Int.emod_lt_of_pos _ (by decide)
    have m1 : mulOk b 44497 = true := mulOk_r (by decide) (by decide)
    have m2 : mulOk b1 b1 = true := mulOk_l (by omega) (by omega)
    refine ⟨b1 * b1 % 2147483399 / 11 % many, μ.set k (.lst [.int a, .int b1]), ?_, h.stp _ _, Int.emod_nonneg _ (by omega), Int.emod_lt_of_pos _ hm⟩
    have e2 : (μ.set k (.lst [.int a, .int b1]))[k]? = some (.lst [.int a, .int b1]) := set_get e
    have l11 : Nat.log2 11 < 9000 := by decide
    simp [sSeq, sIf, bT, eOp, eV, eC, op2, view, e, ixD, atI, ixN, cmpD, asB, Out.bind, toSB, ha, sSet, toS, eBi, aCons, aNil, opA, viewA, intD, modD, hm, sSub, fdivD, hb, putCell, sRet, retS, sNil, mulD, m1, addD, ← hb1, e2, m2, l11]
    rw [List.take_of_length_le (by simp)]
theorem source_ok {μ : Mu} {ns : List Int} {k : Int} (h0 : 0 ≤ k) : ∃ a b, g_source [.d (.scr ns), .d (.int k)] μ = .ok (.c μ.length) (μ ++ [.lst [.int a, .int b]]) := by
  unfold g_source fnD G_source
  have er : rho0 4 [S.d (.scr ns), .d (.int k)] = [some (.d (.scr ns)), some (.d (.int k)), none, none] := rfl
  rw [er]
  obtain ⟨x, hx⟩ : ∃ x : Int, x = if k < ns.length then (atI ns k).getD 0 else 0 := ⟨_, rfl⟩
  obtain ⟨s1, e1⟩ : ∃ s1 : Int, s1 = (x * 16807 + 60919 * k + 31) % 2147481173 := ⟨_, rfl⟩
  have q0 : 0 ≤ s1 := by rw [e1]; exact Int.emod_nonneg _ (by decide)
  have q1 : s1 < 2147481173 := by rw [e1]; exact Int.emod_lt_of_pos _ (by decide)
  have m1 : mulOk x 16807 = true := mulOk_r (by decide) (by decide)
  have m2 : mulOk 60919 k = true := mulOk_l (by decide) (by decide)
  have m3 : mulOk s1 s1 = true := mulOk_l (by omega) (by omega)
  have m4 : mulOk 2 k = true := mulOk_l (by decide) (by decide)
  have cp : (2 : Nat) ≤ cap := by decide
  refine ⟨if 1000000000000000000 ≤ x then x else 0, s1 * s1 % 2147481151 + 2 * k + 5, ?_⟩
  by_cases hk : k < ns.length
  · have ha : atI ns k = some x := by
      rw [if_pos hk] at hx
      have hn : k.toNat < ns.length := by omega
      have : atI ns k = some ns[k.toNat] := by
        have := atI_nat (xs := ns) (j := k.toNat) (List.getElem?_eq_getElem hn)
        rw [Int.toNat_of_nonneg h0] at this
        exact this
      rw [hx, this]; rfl
    by_cases hx2 : 1000000000000000000 ≤ x
    · simp [sSeq, sIf, bT, eOp, eV, eC, op2, view, ixD, ha, cmpD, asB, Out.bind, toSB, sSet, toS, eBi, aCons, aNil, opA, viewA, intD, lenD, hk, modD, mulD, m1, m2, addD, ← e1, m3, m4, sRet, eCell, eIf, powD, mkCell, allD, cp, retS, hx2]
    · simp [sSeq, sIf, bT, eOp, eV, eC, op2, view, ixD, ha, cmpD, asB, Out.bind, toSB, sSet, toS, eBi, aCons, aNil, opA, viewA, intD, lenD, hk, modD, mulD, m1, m2, addD, ← e1, m3, m4, sRet, eCell, eIf, powD, mkCell, allD, cp, retS, hx2]
  · rw [if_neg hk] at hx
    subst hx
    have e1' : s1 = (60919 * k + 31) % 2147481173 := by simpa using e1
    have m0 : mulOk 0 16807 = true := mulOk_r (by decide) (by decide)
    simp [sSeq, sIf, bT, eOp, eV, eC, op2, view, cmpD, asB, Out.bind, toSB, sSet, sNil, toS, eBi, aCons, aNil, opA, viewA, intD, lenD, hk, modD, mulD, m0, m2, addD, ← e1', m3, m4, sRet, eCell, eIf, powD, mkCell, allD, cp, retS]
/-! ### flips and scripts -/
def G_chosen (f__law_pick : List S → Mu → Out S) : FS :=
      (sRet (eOp ixD (eV 1) (eCall 2 f__law_pick (aCons (eV 0) (aCons (eBi lenD (aCons (eV 1) aNil)) aNil)))))
def g_chosen : List S → Mu → Out S := fnD 2 (G_chosen g_pick)
def G_flip : FS :=
      (sSeq (sSet 1 (eCall 2 g_pick (aCons (eV 0) (aCons (eC (.int 13)) aNil))))
      (sRet (eIf (bT (eOp ltD (eV 1) (eC (.int 7)))) (eTup (aCons (eC (.str "but")) (aCons (eV 1) aNil))) (eTup (aCons (eC (.str "top")) (aCons (eOp subD (eV 1) (eC (.int 6))) aNil))))))
def g_flip : List S → Mu → Out S := fnD 2 G_flip
def G_script : FS :=
      (sRet (eBi tupleD (aCons (eLc (iRange1 (aCons (eCall 2 g_pick (aCons (eV 0) (aCons (eOp addD (eV 1) (eC (.int 1))) aNil))) aNil)) (gN 2) bYes (eCall 1 g_flip (aCons (eV 0) aNil)) [2]) aNil)))
def g_script : List S → Mu → Out S := fnD 3 G_script
/-- a flip: whether the word is top, and how many -/
abbrev Fl := Bool × Int
def encF (f : Fl) : D := .tup [.str (if f.1 = true then "top" else "but"), .int f.2]
def okF (f : Fl) : Prop := (if f.1 = true then 1 else 0) ≤ f.2 ∧ f.2 ≤ 6
def encS (l : List Fl) : D := .tup (l.map encF)
theorem cap2 : (2 : Nat) ≤ cap := by decide
theorem atI_zero {α : Type} (a : α) (l : List α) : atI (a :: l) 0 = some a := by simp [atI, ixN]
theorem atI_some {α : Type} {l : List α} {r : Int} (h0 : 0 ≤ r) (h1 : r < l.length) : ∃ d, atI l r = some d ∧ d ∈ l := by
  have hn : r.toNat < l.length := by omega
  refine ⟨l[r.toNat], ?_, List.getElem_mem hn⟩
  have := atI_nat (xs := l) (j := r.toNat) (List.getElem?_eq_getElem hn)
  rw [Int.toNat_of_nonneg h0] at this
  exact this
theorem take_len {μ : Mu} {n m : Nat} (h : μ.length = n) (h2 : m = n) : μ.take m = μ := by
  rw [List.take_of_length_le]; omega
theorem chosen_ok {μ : Mu} {k n : Nat} {l : List D} (h : Src μ k n) (hl : 0 < l.length) (hb : l.length < 1000) : ∃ d μ', g_chosen [.c k, .d (.lst l)] μ = .ok (.d d) μ' ∧ Stp k μ μ' ∧ d ∈ l := by
  have hb2 : ((l.length : Int)).natAbs.log2 < 9000 := by
    have : ((l.length : Int)).natAbs = l.length := by omega
    rw [this]
    exact Nat.lt_of_le_of_lt (Nat.log2_le_self _) (by omega)
  obtain ⟨r, μ', e, h', r0, r1⟩ := pick_ok h (many := l.length) (by omega) hb2
  obtain ⟨d, hd, hm⟩ := atI_some r0 r1
  refine ⟨d, μ', ?_, h', hm⟩
  unfold g_chosen fnD G_chosen
  have er : rho0 2 [S.c k, .d (.lst l)] = [some (.c k), some (.d (.lst l))] := rfl
  rw [er]
  simp [sRet, eOp, eV, eCall, aCons, aNil, eBi, opA, viewA, view, lenD, Out.bind, e, toS, op2, ixD, hd, retS, take_len (h'.len) rfl]
theorem flip_ok {μ : Mu} {k n : Nat} (h : Src μ k n) : ∃ f μ', g_flip [.c k] μ = .ok (.d (encF f)) μ' ∧ Stp k μ μ' ∧ okF f := by
  obtain ⟨r, μ', e, h', r0, r1⟩ := pick_ok h (many := 13) (by decide) (by decide)
  have er : rho0 2 [S.c k] = [some (.c k), none] := rfl
  by_cases hr : r < 7
  · refine ⟨(false, r), μ', ?_, h', by unfold okF; simp; omega⟩
    unfold g_flip fnD G_flip
    rw [er]
    simp [sSeq, sSet, eCall, aCons, eV, eC, aNil, Out.bind, e, toS, sRet, eIf, bT, eOp, op2, view, cmpD, hr, asB, eTup, mkTup, allD, cap2, retS, encF, take_len (h'.len) rfl]
  · refine ⟨(true, r - 6), μ', ?_, h', by unfold okF; simp; omega⟩
    unfold g_flip fnD G_flip
    rw [er]
    simp [sSeq, sSet, eCall, aCons, eV, eC, aNil, Out.bind, e, toS, sRet, eIf, bT, eOp, op2, view, cmpD, hr, asB, eTup, mkTup, allD, cap2, retS, encF, take_len (h'.len) rfl, subD]
/-- a comprehension whose element is drawn -/
theorem lc_draw {k n : Nat} {fe : FE} {ρ : Rho} {i : Nat} {P : D → Prop} (hf : ∀ x μ, Src μ k n → ∃ d μ', fe (ρ.set i (some (.d x))) μ = .ok (.d d) μ' ∧ Stp k μ μ' ∧ P d) : ∀ (l : List D) (μ : Mu), Src μ k n →
    ∃ ds μ', lcD (gN i) bYes fe ρ l μ = .ok ds μ' ∧ Stp k μ μ' ∧ (∀ d ∈ ds, P d) ∧ ds.length = l.length
  | [], μ, h => ⟨[], μ, rfl, h.refl, fun _ z => (by cases z), rfl⟩
  | x :: l, μ, h => by
    obtain ⟨d, μ1, e1, h1, p1⟩ := hf x μ h
    obtain ⟨ds, μ2, e2, h2, p2, q2⟩ := lc_draw hf l μ1 (h1.src h)
    refine ⟨d :: ds, μ2, ?_, h1.trans h2, fun y hy => ?_, by simp [q2]⟩
    · simp [lcD, gN, bYes, e1, e2]
    · rcases List.mem_cons.mp hy with z | z
      · rw [z]; exact p1
      · exact p2 y z
theorem all_enc : ∀ {ds : List D}, (∀ d ∈ ds, ∃ f, d = encF f ∧ okF f) → ∃ l : List Fl, ds = l.map encF ∧ (∀ f ∈ l, okF f) ∧ l.length = ds.length
  | [], _ => ⟨[], rfl, fun _ z => (by cases z), rfl⟩
  | d :: ds, h => by
    obtain ⟨f, e, p⟩ := h d List.mem_cons_self
    obtain ⟨l, e2, p2, q2⟩ := all_enc (ds := ds) fun x hx => h x (List.mem_cons_of_mem _ hx)
    refine ⟨f :: l, by rw [e, e2]; rfl, fun x hx => ?_, by simp [q2]⟩
    rcases List.mem_cons.mp hx with z | z
    · rw [z]; exact p
    · exact p2 x z
theorem script_ok {μ : Mu} {k n : Nat} {most : Int} (h : Src μ k n) (h0 : 0 ≤ most) (h1 : most < 1000) : ∃ l μ', g_script [.c k, .d (.int most)] μ = .ok (.d (encS l)) μ' ∧ Stp k μ μ' ∧ (∀ f ∈ l, okF f) ∧ l.length ≤ most.toNat := by
  have hb : (most + 1).natAbs.log2 < 9000 := Nat.lt_of_le_of_lt (Nat.log2_le_self _) (by omega)
  obtain ⟨r, μ1, e1, hs1, r0, r1⟩ := pick_ok h (many := most + 1) (by omega) hb
  have er : rho0 3 [S.c k, .d (.int most)] = [some (.c k), some (.d (.int most)), none] := rfl
  have hR : bigR r := by unfold bigR; omega
  have hc : r.toNat ≤ cap := by unfold cap; omega
  obtain ⟨ds, μ2, e2, hs2, p2, q2⟩ := lc_draw (k := k) (n := n) (fe := eCall 1 g_flip (aCons (eV 0) aNil)) (ρ := [some (.c k), some (.d (.int most)), none]) (i := 2) (P := fun d => ∃ f, d = encF f ∧ okF f) (fun x μ hμ => by
    obtain ⟨f, μ', e, h', p⟩ := flip_ok hμ
    refine ⟨encF f, μ', ?_, h', f, rfl, p⟩
    simp [eCall, aCons, eV, aNil, Out.bind, e]) (upD 0 r.toNat) μ1 (hs1.src h)
  obtain ⟨l, e3, p3, q3⟩ := all_enc p2
  refine ⟨l, μ2, ?_, hs1.trans hs2, p3, by rw [q3, q2, upD_len]; omega⟩
  unfold g_script fnD G_script
  rw [er]
  simp [sRet, eBi, aCons, aNil, eLc, iRange1, eCall, eV, eC, eOp, op2, view, addD, Out.bind, e1, rng1, hR, upD_len, hc, wipeR, e2, mkL, opA, viewA, tupleD, toS, retS, take_len (hs1.trans hs2).len rfl, e3, encS]
end GF

set_option maxHeartbeats 2000000
/-! Plain data: no function, no class, no source within; how deep. -/
namespace GF
open PySem PySem.Spec PyProof.Rows L2
mutual
def dat : Nat → D → Bool
  | _, .non => true
  | _, .bl _ => true
  | _, .int _ => true
  | _, .str x => PyData.strOk x
  | 0, .tup _ => false
  | k + 1, .tup l => datA k l
  | 0, .lst _ => false
  | k + 1, .lst l => datA k l
  | _, .scr _ => false
  | _, .fn _ => false
  | _, .ty _ => false
def datA : Nat → List D → Bool
  | _, [] => true
  | k, d :: l => dat k d && datA k l
end
theorem datA_all {k : Nat} : ∀ {l : List D}, datA k l = true ↔ ∀ d ∈ l, dat k d = true
  | [] => by simp [datA]
  | d :: l => by simp [datA, datA_all (l := l)]
mutual
theorem dat_shape : ∀ (k : Nat) (d : D), dat k d = true → (toPy d).canLay0 = true ∧ (toPy d).depth ≤ k
  | _, .non, _ => by simp [toPy, PyData.canLay0, PyData.depth]
  | _, .bl _, _ => by simp [toPy, PyData.canLay0, PyData.depth]
  | _, .int _, _ => by simp [toPy, PyData.canLay0, PyData.depth]
  | _, .str x, h => by simp [dat] at h; simp [toPy, PyData.canLay0, PyData.depth, h]
  | 0, .tup _, h => by simp [dat] at h
  | k + 1, .tup l, h => by
    have := datA_shape k l (by simpa [dat] using h)
    simp [toPy, PyData.canLay0, PyData.depth, this.1, this.2]
  | 0, .lst _, h => by simp [dat] at h
  | k + 1, .lst l, h => by
    have := datA_shape k l (by simpa [dat] using h)
    simp [toPy, PyData.canLay0, PyData.depth, this.1, this.2]
  | _, .scr _, h => by simp [dat] at h
  | _, .fn _, h => by simp [dat] at h
  | _, .ty _, h => by simp [dat] at h
theorem datA_shape : ∀ (k : Nat) (l : List D), datA k l = true → PyData.canLayAll0 (toPyA l) = true ∧ PyData.depthAll (toPyA l) ≤ k
  | _, [], _ => by simp [toPyA, PyData.canLayAll0, PyData.depthAll]
  | k, d :: l, h => by
    simp [datA] at h
    have h1 := dat_shape k d h.1
    have h2 := datA_shape k l h.2
    simp [toPyA, PyData.canLayAll0, PyData.depthAll, h1.1, h2.1]
    omega
end
theorem shaped_of {k : Nat} {d : D} (h : dat k d = true) (hk : k ≤ 64) : SeqAt.shaped (toPy d) = true := by
  obtain ⟨h1, h2⟩ := dat_shape k d h
  unfold SeqAt.shaped
  rw [h1, decide_eq_true (by omega)]; rfl
mutual
theorem dat_mono : ∀ {k j : Nat} {d : D}, dat k d = true → k ≤ j → dat j d = true
  | _, _, .non, _, _ => by simp [dat]
  | _, _, .bl _, _, _ => by simp [dat]
  | _, _, .int _, _, _ => by simp [dat]
  | _, _, .str x, h, _ => by simpa [dat] using h
  | 0, _, .tup _, h, _ => by simp [dat] at h
  | k + 1, 0, .tup l, h, hj => by omega
  | k + 1, j + 1, .tup l, h, hj => by
    simp [dat] at h ⊢
    exact datA_mono h (by omega)
  | 0, _, .lst _, h, _ => by simp [dat] at h
  | k + 1, 0, .lst l, h, hj => by omega
  | k + 1, j + 1, .lst l, h, hj => by
    simp [dat] at h ⊢
    exact datA_mono h (by omega)
  | _, _, .scr _, h, _ => by simp [dat] at h
  | _, _, .fn _, h, _ => by simp [dat] at h
  | _, _, .ty _, h, _ => by simp [dat] at h
theorem datA_mono : ∀ {k j : Nat} {l : List D}, datA k l = true → k ≤ j → datA j l = true
  | _, _, [], _, _ => by simp [datA]
  | k, j, d :: l, h, hj => by
    simp [datA] at h ⊢
    exact ⟨dat_mono h.1 hj, datA_mono h.2 hj⟩
end
theorem shaped_str {x : Str} (h : PyData.strOk x = true) : SeqAt.shaped (toPy (.str x)) = true := shaped_of (k := 0) (by simpa [dat] using h) (by decide)
theorem shaped_int (i : Int) : SeqAt.shaped (toPy (.int i)) = true := shaped_of (k := 0) (by simp [dat]) (by decide)
theorem shaped_bl (i : Bool) : SeqAt.shaped (toPy (.bl i)) = true := shaped_of (k := 0) (by simp [dat]) (by decide)
theorem shaped_non : SeqAt.shaped (toPy .non) = true := shaped_of (k := 0) (by simp [dat]) (by decide)
theorem eqv_str (x y : Str) : eqvD (.str x) (.str y) = decide (x = y) := by
  simp only [eqvD, toPy, PyData.eqv]
  rw [Bool.eq_iff_iff]; simp
theorem eqv_int (x y : Int) : eqvD (.int x) (.int y) = decide (x = y) := by
  simp only [eqvD, toPy, PyData.eqv]
  rw [Bool.eq_iff_iff]; simp
theorem eqv_bl (x y : Bool) : eqvD (.bl x) (.bl y) = decide (x = y) := by
  simp only [eqvD, toPy, PyData.eqv]
  rw [Bool.eq_iff_iff]; simp
theorem encF_dat {f : Fl} : dat 1 (encF f) = true := by
  unfold encF
  simp [dat, datA]
  cases f.1 <;> decide +kernel
theorem encS_dat (l : List Fl) : dat 2 (encS l) = true := by
  unfold encS
  rw [dat, datA_all]
  intro d hd
  obtain ⟨f, _, rfl⟩ := List.mem_map.mp hd
  exact encF_dat
/-! ### comprehensions whose parts leave the cells as they are -/
theorem lc_pure {fe : FE} {ρ : Rho} {i : Nat} {μ : Mu} (g : D → D) : ∀ (l : List D), (∀ x ∈ l, fe (ρ.set i (some (.d x))) μ = .ok (.d (g x)) μ) → lcD (gN i) bYes fe ρ l μ = .ok (l.map g) μ
  | [], _ => rfl
  | x :: l, h => by
    have h1 := h x List.mem_cons_self
    have h2 := lc_pure (fe := fe) (ρ := ρ) (i := i) (μ := μ) g l fun y hy => h y (List.mem_cons_of_mem _ hy)
    simp [lcD, gN, bYes, h1]
    rw [h2]
theorem lc_filter {ft : FB} {fe : FE} {ρ : Rho} {i : Nat} {μ : Mu} (p : D → Bool) (g : D → D) : ∀ (l : List D), (∀ x ∈ l, ft (ρ.set i (some (.d x))) μ = .ok (p x) μ) → (∀ x ∈ l, p x = true → fe (ρ.set i (some (.d x))) μ = .ok (.d (g x)) μ) →
    lcD (gN i) ft fe ρ l μ = .ok ((l.filter p).map g) μ
  | [], _, _ => rfl
  | x :: l, h, h' => by
    have h1 := h x List.mem_cons_self
    have h2 := lc_filter (ft := ft) (fe := fe) (ρ := ρ) (i := i) (μ := μ) p g l (fun y hy => h y (List.mem_cons_of_mem _ hy)) fun y hy => h' y (List.mem_cons_of_mem _ hy)
    have e : gN i x ρ = some (ρ.set i (some (.d x))) := rfl
    unfold lcD
    rw [e]
    dsimp only
    rw [h1]
    cases hp : p x with
    | false =>
      dsimp only
      rw [h2, List.filter_cons_of_neg (by simp [hp])]
    | true =>
      dsimp only
      rw [h' x List.mem_cons_self hp]
      dsimp only
      rw [h2, List.filter_cons_of_pos hp, List.map_cons]
theorem allBl_map (p : D → Bool) : ∀ l : List D, allBl (l.map fun x => .bl (p x)) = some (l.map p)
  | [] => rfl
  | x :: l => by simp [allBl, allBl_map p l]
/-! ### how long, all within -/
mutual
def small : Nat → D → Bool
  | N, .tup l => decide (l.length ≤ N) && smallA N l
  | N, .lst l => decide (l.length ≤ N) && smallA N l
  | _, _ => true
def smallA : Nat → List D → Bool
  | _, [] => true
  | N, d :: l => small N d && smallA N l
end
theorem smallA_all {N : Nat} : ∀ {l : List D}, smallA N l = true ↔ ∀ d ∈ l, small N d = true
  | [] => by simp [smallA]
  | d :: l => by simp [smallA, smallA_all (l := l)]
mutual
theorem small_mono {N M : Nat} (h : N ≤ M) : ∀ {d : D}, small N d = true → small M d = true
  | .non, _ => by simp [small]
  | .bl _, _ => by simp [small]
  | .int _, _ => by simp [small]
  | .str _, _ => by simp [small]
  | .scr _, _ => by simp [small]
  | .fn _, _ => by simp [small]
  | .ty _, _ => by simp [small]
  | .tup l, q => by
    simp [small] at q ⊢
    exact ⟨by omega, smallA_mono h q.2⟩
  | .lst l, q => by
    simp [small] at q ⊢
    exact ⟨by omega, smallA_mono h q.2⟩
theorem smallA_mono {N M : Nat} (h : N ≤ M) : ∀ {l : List D}, smallA N l = true → smallA M l = true
  | [], _ => by simp [smallA]
  | d :: l, q => by
    simp [smallA] at q ⊢
    exact ⟨small_mono h q.1, smallA_mono h q.2⟩
end
theorem push_get {μ : Mu} {c : Cell} : (μ ++ [c])[μ.length]? = some c := by simp
theorem addD_int (i j : Int) : addD (.int i) (.int j) = some (.int (i + j)) := rfl
theorem addD_lst {a b : List D} (h : a.length + b.length ≤ cap) : addD (.lst a) (.lst b) = some (.lst (a ++ b)) := by simp [addD, h]
theorem addD_tup {a b : List D} (h : a.length + b.length ≤ cap) : addD (.tup a) (.tup b) = some (.tup (a ++ b)) := by simp [addD, h]
theorem sIx_int {n d : Nat} {a : Int} (h : 0 ≤ a) : HT.sIx n d (some a) = min a.toNat n := by
  obtain ⟨k, rfl⟩ : ∃ k : Nat, a = k := ⟨a.toNat, by omega⟩
  rw [HT.sIx_nat]; simp
theorem cut_to {l : List D} {a : Int} (h : 0 ≤ a) : cutL l none (some a) = l.take a.toNat := by
  unfold cutL
  rw [HT.sIx_none, sIx_int h, List.drop_zero, Nat.sub_zero]
  rcases Nat.le_total a.toNat l.length with q | q
  · rw [Nat.min_eq_left q]
  · rw [Nat.min_eq_right q, List.take_length, List.take_of_length_le q]
theorem cut_from {l : List D} {a : Int} (h : 0 ≤ a) : cutL l (some a) none = l.drop a.toNat := by
  unfold cutL
  rw [HT.sIx_none, sIx_int h]
  rcases Nat.le_total a.toNat l.length with q | q
  · rw [Nat.min_eq_left q, List.take_of_length_le (by simp)]
  · rw [Nat.min_eq_right q, List.drop_length, List.drop_of_length_le q]; simp
theorem cut_mid {l : List D} {a b : Int} (h : 0 ≤ a) (h' : 0 ≤ b) (hb : a ≤ b) : cutL l (some a) (some b) = (l.drop a.toNat).take (b.toNat - a.toNat) := by
  unfold cutL
  rw [sIx_int h, sIx_int h']
  rcases Nat.le_total a.toNat l.length with q | q
  · rw [Nat.min_eq_left q]
    rcases Nat.le_total b.toNat l.length with q' | q'
    · rw [Nat.min_eq_left q']
    · rw [Nat.min_eq_right q', List.take_of_length_le (by simp), List.take_of_length_le (by simp; omega)]
  · rw [Nat.min_eq_right q, List.drop_length, List.drop_of_length_le q]; simp
theorem stp_take {k : Nat} {μ μ' : Mu} (hl : μ.length ≤ μ'.length) (hk : k < μ.length) (ho : ∀ j, j ≠ k → j < μ.length → μ'[j]? = μ[j]?) (ha : ∃ a b, μ'[k]? = some (.lst [.int a, .int b])) : Stp k μ (μ'.take μ.length) := by
  refine ⟨by rw [List.length_take]; omega, fun j hj => ?_, ?_⟩
  · rw [List.getElem?_take]
    split
    · rename_i q; exact ho j hj q
    · rename_i q; rw [List.getElem?_eq_none (by omega)]
  · obtain ⟨a, b, e⟩ := ha
    refine ⟨a, b, ?_⟩
    rw [List.getElem?_take, if_pos hk]; exact e
theorem Src.push {μ : Mu} {k n : Nat} (h : Src μ k n) (c : Cell) : Src (μ ++ [c]) k (n + 1) := by
  refine ⟨by rw [List.length_append, h.len]; rfl, ?_⟩
  obtain ⟨a, b, e⟩ := h.at_
  exact ⟨a, b, by rw [List.getElem?_append_left (get_lt e)]; exact e⟩
/-- a def's own cell on top, the source moved on beneath it -/
theorem stp_pop {k n : Nat} {μ μ' : Mu} {c : Cell} (h : Src μ k n) (s : Stp k (μ ++ [c]) μ') : Stp k μ (μ'.take μ.length) := by
  refine stp_take (by rw [s.len]; simp) (by rw [h.len]; exact h.lt) (fun j hj hl => ?_) s.at_
  rw [s.oth j hj, List.getElem?_append_left hl]
theorem stp_own {k n : Nat} {μ μ' : Mu} {c : Cell} (h : Src μ k n) (s : Stp k (μ ++ [c]) μ') : μ'[μ.length]? = some c := by
  rw [s.oth _ (by have := h.lt; have := h.len; omega)]; simp
theorem datA_sub {k : Nat} {l l' : List D} (h : datA k l = true) (q : ∀ x ∈ l', x ∈ l) : datA k l' = true := datA_all.mpr fun x hx => datA_all.mp h x (q x hx)
theorem smallA_sub {k : Nat} {l l' : List D} (h : smallA k l = true) (q : ∀ x ∈ l', x ∈ l) : smallA k l' = true := smallA_all.mpr fun x hx => smallA_all.mp h x (q x hx)
/-! ### a loop by what holds between two turns -/
theorem forD_inv {t : D → Rho → Option Rho} {body : FS} (I : Rho → Mu → Prop) : ∀ (l : List D) {ρ : Rho} {μ : Mu}, (∀ x ∈ l, ∀ ρ μ, I ρ μ → ∃ ρ1, t x ρ = some ρ1 ∧ ∃ ρ2 μ2, body ρ1 μ = .nx ρ2 μ2 ∧ I ρ2 μ2) → I ρ μ → ∃ ρ' μ', forD t body l ρ μ = .nx ρ' μ' ∧ I ρ' μ'
  | [], ρ, μ, _, h => ⟨ρ, μ, rfl, h⟩
  | x :: l, ρ, μ, hs, h => by
    obtain ⟨ρ1, e1, ρ2, μ2, e2, h2⟩ := hs x List.mem_cons_self ρ μ h
    obtain ⟨ρ', μ', e3, h3⟩ := forD_inv I l (fun y hy => hs y (List.mem_cons_of_mem _ hy)) h2
    refine ⟨ρ', μ', ?_, h3⟩
    simp only [forD]
    rw [e1]
    dsimp only
    rw [e2]
    exact e3
theorem upD_mem : ∀ {n : Nat} {lo : Int} {x : D}, x ∈ upD lo n → ∃ i : Int, x = .int i ∧ lo ≤ i ∧ i < lo + n
  | 0, lo, x, h => by simp [upD] at h
  | n + 1, lo, x, h => by
    rcases List.mem_cons.mp (show x ∈ .int lo :: upD (lo + 1) n from h) with z | z
    · exact ⟨lo, z, by omega, by omega⟩
    · obtain ⟨i, e, h1, h2⟩ := upD_mem z
      exact ⟨i, e, by omega, by omega⟩
theorem small_encS {l : List Fl} {N : Nat} (h : l.length ≤ N) (h2 : 2 ≤ N) : small N (encS l) = true ∧ smallA N (l.map encF) = true := by
  have : smallA N (l.map encF) = true := smallA_all.mpr fun x hx => by
    obtain ⟨f, _, rfl⟩ := List.mem_map.mp hx
    simp [encF, small, smallA, h2]
  refine ⟨?_, this⟩
  unfold encS
  simp [small, this, h]
end GF

set_option maxHeartbeats 4000000
namespace Law
open PySem PySem.Spec PyProof.Rows L2 GF
def topS (i : Nat) : Stmt := PySem.Challenge.pw_griddleflips_k01_flips_and_scripts.main.body.getD i (.Pass ⟨0, 0, 0, 0⟩)

/-! #### is_int -/
abbrev s_is_int : Stmt := topS 2
abbrev N_is_int : List Str := ["value", "low", "high"]
theorem sc_is_int : FnScope N_is_int ["value", "low", "high"] (defScope s_is_int) := ⟨rfl, rfl, rfl, by decide +kernel, rfl, by decide +kernel, by decide +kernel⟩
def d_is_int : FS :=
      (sRet (eAnd (eBi isiD (aCons (eV 0) (aCons (eC (.ty "int")) aNil))) (eAnd (eNot (eBi isiD (aCons (eV 0) (aCons (eC (.ty "bool")) aNil)))) (eChain leD leD (eV 1) (eV 0) (eV 2)))))
def f_is_int : List S → Mu → Out S := fnD 3 d_is_int
section
variable {P : Program} {w : World} {K : PySem.W.Frag} {mg : Str → Option Value} {base : Heap}
theorem at_is_int (T : At K mg "is_int" s_is_int ["value", "low", "high"]) (nb_int : NoB mg "int") (nb_isinstance : NoB mg "isinstance") (nb_bool : NoB mg "bool") : FnAt P w K mg base 1 "is_int" 3 f_is_int := by
  refine T.go' (k := 0) (nn := 3) (body := d_is_int) sc_is_int rfl rfl rfl rfl fun f cdv A outer s H E hr => ?_
  exact (dss_one (ds_ret (de_and (de_bi call_isi snd_isi nb_isinstance.no PyProof.Rows.boot_isinstance (da_cons (de_v 0) (da_cons (de_cls nb_int.no PyProof.Rows.boot_int) da_nil))) (de_and (de_not (de_bi call_isi snd_isi nb_isinstance.no PyProof.Rows.boot_isinstance (da_cons (de_v 0) (da_cons (de_cls nb_bool.no (by decide +kernel)) da_nil)))) (de_one (de_chain op_le snd_cmp op_le snd_cmp (de_v 1) (de_v 0) (de_v 2)))))))
end

/-! #### is_right_flip -/
abbrev s_is_right_flip : Stmt := topS 3
abbrev N_is_right_flip : List Str := ["value"]
theorem sc_is_right_flip : FnScope N_is_right_flip ["value"] (defScope s_is_right_flip) := ⟨rfl, rfl, rfl, by decide +kernel, rfl, by decide +kernel, by decide +kernel⟩
def d_is_right_flip : FS :=
      (sSeq (sIf (bOr (bNot (bT (eBi isiD (aCons (eV 0) (aCons (eC (.ty "tuple")) aNil))))) (bOr (bT (eOp neD (eBi lenD (aCons (eV 0) aNil)) (eC (.int 2)))) (bNot (bT (eBi isiD (aCons (eOp ixD (eV 0) (eC (.int 0))) (aCons (eC (.ty "str")) aNil)))))))
      (sRet (eC (.bl false)))
      sNil)
      (sSeq (sIf (bT (eOp eqD (eOp ixD (eV 0) (eC (.int 0))) (eC (.str "top"))))
      (sRet (eCall 3 f_is_int (aCons (eOp ixD (eV 0) (eC (.int 1))) (aCons (eC (.int 1)) (aCons (eC (.int 6)) aNil)))))
      sNil)
      (sRet (eAnd (eOp eqD (eOp ixD (eV 0) (eC (.int 0))) (eC (.str "but"))) (eCall 3 f_is_int (aCons (eOp ixD (eV 0) (eC (.int 1))) (aCons (eC (.int 0)) (aCons (eC (.int 6)) aNil))))))))
def f_is_right_flip : List S → Mu → Out S := fnD 1 d_is_right_flip
section
variable {P : Program} {w : World} {K : PySem.W.Frag} {mg : Str → Option Value} {base : Heap}
theorem at_is_right_flip (T : At K mg "is_right_flip" s_is_right_flip ["value"]) (ok_is_int : FnAt P w K mg base 1 "is_int" 3 f_is_int) (nb_tuple : NoB mg "tuple") (nb_isinstance : NoB mg "isinstance") (nb_len : NoB mg "len") (nb_str : NoB mg "str") : FnAt P w K mg base 2 "is_right_flip" 1 f_is_right_flip := by
  refine T.go' (k := 1) (nn := 1) (body := d_is_right_flip) sc_is_right_flip rfl rfl rfl rfl fun f cdv A outer s H E hr => ?_
  exact (dss_cons (ds_if (dt_w (dw_or (dt_not (dt_val (de_bi call_isi snd_isi nb_isinstance.no PyProof.Rows.boot_isinstance (da_cons (de_v 0) (da_cons (de_cls nb_tuple.no PyProof.Rows.boot_tuple) da_nil))))) (dw_or (dt_cmp (op_neD hr.units) snd_ne (de_bi call_lenA snd_len nb_len.no PySem.boot_len (da_cons (de_v 0) da_nil)) de_int (nomark _)) (dw_or1 (dt_not (dt_val (de_bi call_isi snd_isi nb_isinstance.no PyProof.Rows.boot_isinstance (da_cons (de_ix ix_seq snd_ix (de_v 0) de_int (fun _ _ => rfl)) (da_cons (de_cls nb_str.no (by decide +kernel)) da_nil)))))))))
      (dss_one (ds_ret de_bl))
      dss_nil)
      (dss_cons (ds_if (dt_cmp (op_eqD hr.units) snd_eq (de_ix ix_seq snd_ix (de_v 0) de_int (fun _ _ => rfl)) de_str (nomark _))
      (dss_one (ds_ret (dcall ok_is_int hr (by decide) (takes_of rfl rfl rfl rfl) (da_cons (de_ix ix_seq snd_ix (de_v 0) de_int (fun _ _ => rfl)) (da_cons de_int (da_cons de_int da_nil))))))
      dss_nil)
      (dss_one (ds_ret (de_and (de_cmp (op_eqD hr.units) snd_eq (de_ix ix_seq snd_ix (de_v 0) de_int (fun _ _ => rfl)) de_str (nomark _)) (de_one (dcall ok_is_int hr (by decide) (takes_of rfl rfl rfl rfl) (da_cons (de_ix ix_seq snd_ix (de_v 0) de_int (fun _ _ => rfl)) (da_cons de_int (da_cons de_int da_nil))))))))))
end

/-! #### are_flips -/
abbrev s_are_flips : Stmt := topS 4
abbrev N_are_flips : List Str := ["value", "most", "flip"]
theorem sc_are_flips : FnScope N_are_flips ["value", "most"] (defScope s_are_flips) := ⟨rfl, rfl, rfl, by decide +kernel, rfl, by decide +kernel, by decide +kernel⟩
def d_are_flips : FS :=
      (sRet (eAnd (eBi isiD (aCons (eV 0) (aCons (eC (.ty "tuple")) aNil))) (eAnd (eOp leD (eBi lenD (aCons (eV 0) aNil)) (eV 1)) (eBi allOfD (aCons (eLc (iSeq (eV 0)) (gN 2) bYes (eCall 1 f_is_right_flip (aCons (eV 2) aNil)) [2]) aNil)))))
def f_are_flips : List S → Mu → Out S := fnD 3 d_are_flips
section
variable {P : Program} {w : World} {K : PySem.W.Frag} {mg : Str → Option Value} {base : Heap}
theorem at_are_flips (T : At K mg "are_flips" s_are_flips ["value", "most"]) (ok_is_right_flip : FnAt P w K mg base 2 "is_right_flip" 1 f_is_right_flip) (nb_tuple : NoB mg "tuple") (nb_isinstance : NoB mg "isinstance") (nb_len : NoB mg "len") (nb_all : NoB mg "all") : FnAt P w K mg base 3 "are_flips" 2 f_are_flips := by
  refine T.go' (k := 2) (nn := 3) (body := d_are_flips) sc_are_flips rfl rfl rfl rfl fun f cdv A outer s H E hr => ?_
  exact (dss_one (ds_ret (de_and (de_bi call_isi snd_isi nb_isinstance.no PyProof.Rows.boot_isinstance (da_cons (de_v 0) (da_cons (de_cls nb_tuple.no PyProof.Rows.boot_tuple) da_nil))) (de_and (de_cmp op_le snd_cmp (de_bi call_lenA snd_len nb_len.no PySem.boot_len (da_cons (de_v 0) da_nil)) (de_v 1) (nomark _)) (de_one (de_bi (cr_all rfl) snd_all nb_all.no PyProof.Rows.boot_all (da_cons (de_lc rfl sc_are_flips.nd (di_seq (de_v 0)) (blkOk_by (own := [("flip", 2)]) (N := N_are_flips) (sc := defScope s_are_flips) (by decide +kernel)) (fun _ _ _ _ _ => (dg_name sc_are_flips.nd rfl (by first | exact Or.inl rfl | exact Or.inr rfl) (by decide))) (fun _ _ _ _ _ => dts_nil) (fun _ _ _ _ _ => (dcall ok_is_right_flip hr (by decide) takes0 (da_cons (de_v 2) da_nil))) rfl (js := [2]) (by decide)) da_nil)))))))
end

/-! #### is_right_script -/
abbrev s_is_right_script : Stmt := topS 5
abbrev N_is_right_script : List Str := ["value"]
theorem sc_is_right_script : FnScope N_is_right_script ["value"] (defScope s_is_right_script) := ⟨rfl, rfl, rfl, by decide +kernel, rfl, by decide +kernel, by decide +kernel⟩
def d_is_right_script : FS :=
      (sRet (eCall 2 f_are_flips (aCons (eV 0) (aCons (eC (.int 8)) aNil))))
def f_is_right_script : List S → Mu → Out S := fnD 1 d_is_right_script
section
variable {P : Program} {w : World} {K : PySem.W.Frag} {mg : Str → Option Value} {base : Heap}
theorem at_is_right_script (T : At K mg "is_right_script" s_is_right_script ["value"]) (ok_are_flips : FnAt P w K mg base 3 "are_flips" 2 f_are_flips) (ci_MOST_FLIPS : IntB mg "MOST_FLIPS" 8) : FnAt P w K mg base 4 "is_right_script" 1 f_is_right_script := by
  refine T.go' (k := 3) (nn := 1) (body := d_is_right_script) sc_is_right_script rfl rfl rfl rfl fun f cdv A outer s H E hr => ?_
  exact (dss_one (ds_ret (dcall ok_are_flips hr (by decide) (takes_of rfl rfl rfl rfl) (da_cons (de_v 0) (da_cons (de_intB ci_MOST_FLIPS) da_nil)))))
end

/-! #### is_flip -/
abbrev s_is_flip : Stmt := topS 6
abbrev N_is_flip : List Str := ["value"]
theorem sc_is_flip : FnScope N_is_flip ["value"] (defScope s_is_flip) := ⟨rfl, rfl, rfl, by decide +kernel, rfl, by decide +kernel, by decide +kernel⟩
def d_is_flip : FS :=
      (sRet (eCall 1 f_is_right_flip (aCons (eV 0) aNil)))
def f_is_flip : List S → Mu → Out S := fnD 1 d_is_flip
section
variable {P : Program} {w : World} {K : PySem.W.Frag} {mg : Str → Option Value} {base : Heap}
theorem at_is_flip (T : At K mg "is_flip" s_is_flip ["value"]) (ok_is_right_flip : FnAt P w K mg base 2 "is_right_flip" 1 f_is_right_flip) : FnAt P w K mg base 3 "is_flip" 1 f_is_flip := by
  refine T.go' (k := 2) (nn := 1) (body := d_is_flip) sc_is_flip rfl rfl rfl rfl fun f cdv A outer s H E hr => ?_
  exact (dss_one (ds_ret (dcall ok_is_right_flip hr (by decide) (takes_of rfl rfl rfl rfl) (da_cons (de_v 0) da_nil))))
end

/-! #### is_script -/
abbrev s_is_script : Stmt := topS 7
abbrev N_is_script : List Str := ["value"]
theorem sc_is_script : FnScope N_is_script ["value"] (defScope s_is_script) := ⟨rfl, rfl, rfl, by decide +kernel, rfl, by decide +kernel, by decide +kernel⟩
def d_is_script : FS :=
      (sRet (eCall 1 f_is_right_script (aCons (eV 0) aNil)))
def f_is_script : List S → Mu → Out S := fnD 1 d_is_script
section
variable {P : Program} {w : World} {K : PySem.W.Frag} {mg : Str → Option Value} {base : Heap}
theorem at_is_script (T : At K mg "is_script" s_is_script ["value"]) (ok_is_right_script : FnAt P w K mg base 4 "is_right_script" 1 f_is_right_script) : FnAt P w K mg base 5 "is_script" 1 f_is_script := by
  refine T.go' (k := 4) (nn := 1) (body := d_is_script) sc_is_script rfl rfl rfl rfl fun f cdv A outer s H E hr => ?_
  exact (dss_one (ds_ret (dcall ok_is_right_script hr (by decide) (takes_of rfl rfl rfl rfl) (da_cons (de_v 0) da_nil))))
end

/-! #### _law_source -/
abbrev s__law_source : Stmt := topS 9
abbrev N__law_source : List Str := ["_law_script_here", "_law_k", "_law_number", "_law_start"]
theorem sc__law_source : FnScope N__law_source ["_law_script_here", "_law_k"] (defScope s__law_source) := ⟨rfl, rfl, rfl, by decide +kernel, rfl, by decide +kernel, by decide +kernel⟩
def d__law_source : FS :=
      (sSeq (sSet 2 (eC (.int 0)))
      (sSeq (sIf (bT (eOp gtD (eBi lenD (aCons (eV 0) aNil)) (eV 1)))
      (sSet 2 (eBi intD (aCons (eOp ixD (eV 0) (eV 1)) aNil)))
      sNil)
      (sSeq (sSet 3 (eOp modD (eOp addD (eOp addD (eOp mulD (eV 2) (eC (.int 16807))) (eOp mulD (eC (.int 60919)) (eV 1))) (eC (.int 31))) (eC (.int 2147481173))))
      (sSeq (sSet 3 (eOp addD (eOp addD (eOp modD (eOp mulD (eV 3) (eV 3)) (eC (.int 2147481151))) (eOp mulD (eC (.int 2)) (eV 1))) (eC (.int 5))))
      (sRet (eCell (aCons (eIf (bT (eOp geD (eV 2) (eOp powD (eC (.int 10)) (eC (.int 18))))) (eV 2) (eC (.int 0))) (aCons (eV 3) aNil))))))))
def f__law_source : List S → Mu → Out S := fnD 4 d__law_source
section
variable {P : Program} {w : World} {K : PySem.W.Frag} {mg : Str → Option Value} {base : Heap}
theorem at__law_source (T : At K mg "_law_source" s__law_source ["_law_script_here", "_law_k"]) (nb_len : NoB mg "len") (nb_int : NoB mg "int") : FnAt P w K mg base 1 "_law_source" 2 f__law_source := by
  refine T.go' (k := 0) (nn := 4) (body := d__law_source) sc__law_source rfl rfl rfl rfl fun f cdv A outer s H E hr => ?_
  exact (dss_cons (ds_set (i := 2) sc__law_source.nd rfl (Or.inl rfl) de_int)
      (dss_cons (ds_if (dt_cmp op_gt snd_cmp (de_bi call_lenA snd_len nb_len.no PySem.boot_len (da_cons (de_v 0) da_nil)) (de_v 1) (nomark _))
      (dss_one (ds_set (i := 2) sc__law_source.nd rfl (Or.inl rfl) (de_ty call_int1 snd_int nb_int.no PyProof.Rows.boot_int (da_cons (de_ix ix_seq snd_ix (de_v 0) (de_v 1) (fun _ _ => rfl)) da_nil))))
      dss_nil)
      (dss_cons (ds_set (i := 3) sc__law_source.nd rfl (Or.inl rfl) (de_op op_mod snd_mod (de_op op_addA snd_add (de_op op_addA snd_add (de_op op_mulA snd_mul (de_v 2) de_int) (de_op op_mulA snd_mul de_int (de_v 1))) de_int) de_int))
      (dss_cons (ds_set (i := 3) sc__law_source.nd rfl (Or.inl rfl) (de_op op_addA snd_add (de_op op_addA snd_add (de_op op_mod snd_mod (de_op op_mulA snd_mul (de_v 3) (de_v 3)) de_int) (de_op op_mulA snd_mul de_int (de_v 1))) de_int))
      (dss_one (ds_ret (de_cell (da_cons (de_if (dt_cmp op_ge snd_cmp (de_v 2) (de_op op_pow snd_pow de_int de_int) (nomark _)) (de_v 2) de_int) (da_cons (de_v 3) da_nil)))))))))
end

/-! #### _law_pick -/
abbrev s__law_pick : Stmt := topS 10
abbrev N__law_pick : List Str := ["_law_source_here", "_law_many", "_law_found"]
theorem sc__law_pick : FnScope N__law_pick ["_law_source_here", "_law_many"] (defScope s__law_pick) := ⟨rfl, rfl, rfl, by decide +kernel, rfl, by decide +kernel, by decide +kernel⟩
def d__law_pick : FS :=
      (sSeq (sIf (bT (eOp gtD (eOp ixD (eV 0) (eC (.int 0))) (eC (.int 0))))
      (sSeq (sSet 2 (eOp modD (eBi intD (aCons (eOp ixD (eV 0) (eC (.int 0))) aNil)) (eV 1)))
      (sSeq (sSub (eV 0) (eC (.int 0)) (eOp fdivD (eBi intD (aCons (eOp ixD (eV 0) (eC (.int 0))) aNil)) (eV 1)))
      (sRet (eV 2))))
      sNil)
      (sSeq (sSub (eV 0) (eC (.int 1)) (eOp modD (eBi intD (aCons (eOp addD (eOp mulD (eOp ixD (eV 0) (eC (.int 1))) (eC (.int 44497))) (eC (.int 9973))) aNil)) (eC (.int 2147483647))))
      (sRet (eOp modD (eOp fdivD (eOp modD (eBi intD (aCons (eOp mulD (eOp ixD (eV 0) (eC (.int 1))) (eOp ixD (eV 0) (eC (.int 1)))) aNil)) (eC (.int 2147483399))) (eC (.int 11))) (eV 1)))))
def f__law_pick : List S → Mu → Out S := fnD 3 d__law_pick
section
variable {P : Program} {w : World} {K : PySem.W.Frag} {mg : Str → Option Value} {base : Heap}
theorem at__law_pick (T : At K mg "_law_pick" s__law_pick ["_law_source_here", "_law_many"]) (nb_int : NoB mg "int") : FnAt P w K mg base 1 "_law_pick" 2 f__law_pick := by
  refine T.go' (k := 0) (nn := 3) (body := d__law_pick) sc__law_pick rfl rfl rfl rfl fun f cdv A outer s H E hr => ?_
  exact (dss_cons (ds_if (dt_cmp op_gt snd_cmp (de_ix ix_seq snd_ix (de_v 0) de_int (fun _ _ => rfl)) de_int (nomark _))
      (dss_cons (ds_set (i := 2) sc__law_pick.nd rfl (Or.inl rfl) (de_op op_mod snd_mod (de_ty call_int1 snd_int nb_int.no PyProof.Rows.boot_int (da_cons (de_ix ix_seq snd_ix (de_v 0) de_int (fun _ _ => rfl)) da_nil)) (de_v 1)))
      (dss_cons (ds_sub (de_v 0) de_int (de_op op_fdivW snd_fdiv (de_ty call_int1 snd_int nb_int.no PyProof.Rows.boot_int (da_cons (de_ix ix_seq snd_ix (de_v 0) de_int (fun _ _ => rfl)) da_nil)) (de_v 1)) (fun po pi pe => ps_asg pe (pg_sub po pi set_list)))
      (dss_one (ds_ret (de_v 2)))))
      dss_nil)
      (dss_cons (ds_sub (de_v 0) de_int (de_op op_mod snd_mod (de_ty call_int1 snd_int nb_int.no PyProof.Rows.boot_int (da_cons (de_op op_addA snd_add (de_op op_mulA snd_mul (de_ix ix_seq snd_ix (de_v 0) de_int (fun _ _ => rfl)) de_int) de_int) da_nil)) de_int) (fun po pi pe => ps_asg pe (pg_sub po pi set_list)))
      (dss_one (ds_ret (de_op op_mod snd_mod (de_op op_fdivW snd_fdiv (de_op op_mod snd_mod (de_ty call_int1 snd_int nb_int.no PyProof.Rows.boot_int (da_cons (de_op op_mulA snd_mul (de_ix ix_seq snd_ix (de_v 0) de_int (fun _ _ => rfl)) (de_ix ix_seq snd_ix (de_v 0) de_int (fun _ _ => rfl))) da_nil)) de_int) de_int) (de_v 1))))))
end

/-! #### _law_chosen -/
abbrev s__law_chosen : Stmt := topS 11
abbrev N__law_chosen : List Str := ["_law_source_here", "_law_things"]
theorem sc__law_chosen : FnScope N__law_chosen ["_law_source_here", "_law_things"] (defScope s__law_chosen) := ⟨rfl, rfl, rfl, by decide +kernel, rfl, by decide +kernel, by decide +kernel⟩
def d__law_chosen : FS :=
      (sRet (eOp ixD (eV 1) (eCall 2 f__law_pick (aCons (eV 0) (aCons (eBi lenD (aCons (eV 1) aNil)) aNil)))))
def f__law_chosen : List S → Mu → Out S := fnD 2 d__law_chosen
section
variable {P : Program} {w : World} {K : PySem.W.Frag} {mg : Str → Option Value} {base : Heap}
theorem at__law_chosen (T : At K mg "_law_chosen" s__law_chosen ["_law_source_here", "_law_things"]) (ok__law_pick : FnAt P w K mg base 1 "_law_pick" 2 f__law_pick) (nb_len : NoB mg "len") : FnAt P w K mg base 2 "_law_chosen" 2 f__law_chosen := by
  refine T.go' (k := 1) (nn := 2) (body := d__law_chosen) sc__law_chosen rfl rfl rfl rfl fun f cdv A outer s H E hr => ?_
  exact (dss_one (ds_ret (de_ix ix_seq snd_ix (de_v 1) (dcall ok__law_pick hr (by decide) (takes_of rfl rfl rfl rfl) (da_cons (de_v 0) (da_cons (de_bi call_lenA snd_len nb_len.no PySem.boot_len (da_cons (de_v 1) da_nil)) da_nil))) (fun _ _ => rfl))))
end

/-! #### _law_is_bool -/
abbrev s__law_is_bool : Stmt := topS 12
abbrev N__law_is_bool : List Str := ["_law_told", "_law_due"]
theorem sc__law_is_bool : FnScope N__law_is_bool ["_law_told", "_law_due"] (defScope s__law_is_bool) := ⟨rfl, rfl, rfl, by decide +kernel, rfl, by decide +kernel, by decide +kernel⟩
def d__law_is_bool : FS :=
      (sRet (eAnd (eBi isiD (aCons (eV 0) (aCons (eC (.ty "bool")) aNil))) (eOp eqD (eV 0) (eV 1))))
def f__law_is_bool : List S → Mu → Out S := fnD 2 d__law_is_bool
section
variable {P : Program} {w : World} {K : PySem.W.Frag} {mg : Str → Option Value} {base : Heap}
theorem at__law_is_bool (T : At K mg "_law_is_bool" s__law_is_bool ["_law_told", "_law_due"]) (nb_bool : NoB mg "bool") (nb_isinstance : NoB mg "isinstance") : FnAt P w K mg base 1 "_law_is_bool" 2 f__law_is_bool := by
  refine T.go' (k := 0) (nn := 2) (body := d__law_is_bool) sc__law_is_bool rfl rfl rfl rfl fun f cdv A outer s H E hr => ?_
  exact (dss_one (ds_ret (de_and (de_bi call_isi snd_isi nb_isinstance.no PyProof.Rows.boot_isinstance (da_cons (de_v 0) (da_cons (de_cls nb_bool.no (by decide +kernel)) da_nil))) (de_one (de_cmp (op_eqD hr.units) snd_eq (de_v 0) (de_v 1) (nomark _))))))
end

/-! #### _law_whole -/
abbrev s__law_whole : Stmt := topS 13
abbrev N__law_whole : List Str := ["_law_value", "_law_low", "_law_high"]
theorem sc__law_whole : FnScope N__law_whole ["_law_value", "_law_low", "_law_high"] (defScope s__law_whole) := ⟨rfl, rfl, rfl, by decide +kernel, rfl, by decide +kernel, by decide +kernel⟩
def d__law_whole : FS :=
      (sRet (eAnd (eBi isiD (aCons (eV 0) (aCons (eC (.ty "int")) aNil))) (eAnd (eNot (eBi isiD (aCons (eV 0) (aCons (eC (.ty "bool")) aNil)))) (eChain leD leD (eV 1) (eV 0) (eV 2)))))
def f__law_whole : List S → Mu → Out S := fnD 3 d__law_whole
section
variable {P : Program} {w : World} {K : PySem.W.Frag} {mg : Str → Option Value} {base : Heap}
theorem at__law_whole (T : At K mg "_law_whole" s__law_whole ["_law_value", "_law_low", "_law_high"]) (nb_int : NoB mg "int") (nb_isinstance : NoB mg "isinstance") (nb_bool : NoB mg "bool") : FnAt P w K mg base 1 "_law_whole" 3 f__law_whole := by
  refine T.go' (k := 0) (nn := 3) (body := d__law_whole) sc__law_whole rfl rfl rfl rfl fun f cdv A outer s H E hr => ?_
  exact (dss_one (ds_ret (de_and (de_bi call_isi snd_isi nb_isinstance.no PyProof.Rows.boot_isinstance (da_cons (de_v 0) (da_cons (de_cls nb_int.no PyProof.Rows.boot_int) da_nil))) (de_and (de_not (de_bi call_isi snd_isi nb_isinstance.no PyProof.Rows.boot_isinstance (da_cons (de_v 0) (da_cons (de_cls nb_bool.no (by decide +kernel)) da_nil)))) (de_one (de_chain op_le snd_cmp op_le snd_cmp (de_v 1) (de_v 0) (de_v 2)))))))
end

/-! #### _law_any_value -/
abbrev s__law_any_value : Stmt := topS 14
abbrev N__law_any_value : List Str := ["_law_source_here", "_law_deep", "_law_simple_so", "_law_way", "_law_some", "_law_turn"]
theorem sc__law_any_value : FnScope N__law_any_value ["_law_source_here", "_law_deep"] (defScope s__law_any_value) := ⟨rfl, rfl, rfl, by decide +kernel, rfl, by decide +kernel, by decide +kernel⟩
def d__law_any_value (self : List S → Mu → Out S) : FS :=
      (sSeq (sSet 2 (eLst (aCons (eC .non) (aCons (eC (.bl true)) (aCons (eC (.bl false)) (aCons (eC (.int 0)) (aCons (eC (.int 1)) (aCons (eC (.int 6)) (aCons (eC (.int 7)) (aCons (eUn negD (eC (.int 3))) (aCons (eC (.str "")) (aCons (eC (.str "top")) (aCons (eC (.str "but0")) (aCons (eTup aNil) (aCons (eLst aNil) (aCons (eTup (aCons (eC (.int 0)) (aCons (eC (.int 1)) aNil))) (aCons (eTup (aCons (eC (.str "top")) (aCons (eC (.int 2)) aNil))) (aCons (eTup (aCons (eC (.str "but")) (aCons (eC (.int 0)) aNil))) aNil))))))))))))))))))
      (sSeq (sSet 3 (eCall 2 f__law_pick (aCons (eV 0) (aCons (eC (.int 8)) aNil))))
      (sSeq (sIf (bOr (bT (eOp ltD (eV 1) (eC (.int 1)))) (bT (eOp ltD (eV 3) (eC (.int 5)))))
      (sRet (eCall 2 f__law_chosen (aCons (eV 0) (aCons (eV 2) aNil))))
      sNil)
      (sSeq (sSet 4 (eLc (iRange1 (aCons (eCall 2 f__law_pick (aCons (eV 0) (aCons (eC (.int 5)) aNil))) aNil)) (gN 5) bYes (eCall 2 self (aCons (eV 0) (aCons (eOp subD (eV 1) (eC (.int 1))) aNil))) [5]))
      (sRet (eIf (bT (eOp eqD (eV 3) (eC (.int 5)))) (eV 4) (eBi tupleD (aCons (eV 4) aNil))))))))
def f__law_any_value : Nat → List S → Mu → Out S
  | 0 => fun _ _ => .stk
  | k + 1 => fnD 6 (d__law_any_value (f__law_any_value k))
section
variable {P : Program} {w : World} {K : PySem.W.Frag} {mg : Str → Option Value} {base : Heap}
theorem at__law_any_value (T : At K mg "_law_any_value" s__law_any_value ["_law_source_here", "_law_deep"]) (ok__law_pick : FnAt P w K mg base 1 "_law_pick" 2 f__law_pick) (ok__law_chosen : FnAt P w K mg base 2 "_law_chosen" 2 f__law_chosen) (nb_range : NoB mg "range") (nb_tuple : NoB mg "tuple") : ∀ k : Nat, FnAt P w K mg base (3 + k) "_law_any_value" 2 (f__law_any_value k)
  | 0 => T.stk
  | k + 1 => by
    have ok__law_any_value := at__law_any_value T ok__law_pick ok__law_chosen nb_range nb_tuple k
    refine T.go' (nn := 6) (body := d__law_any_value (f__law_any_value k)) sc__law_any_value (Nat.add_succ _ _) rfl rfl rfl fun f cdv A outer s H E hr => ?_
    exact (dss_cons (ds_set (i := 2) sc__law_any_value.nd rfl (Or.inl rfl) (de_lst (da_cons de_non (da_cons de_bl (da_cons de_bl (da_cons de_int (da_cons de_int (da_cons de_int (da_cons de_int (da_cons (de_un un_neg snd_neg de_int) (da_cons de_str (da_cons de_str (da_cons de_str (da_cons (de_tup da_nil) (da_cons (de_lst da_nil) (da_cons (de_tup (da_cons de_int (da_cons de_int da_nil))) (da_cons (de_tup (da_cons de_str (da_cons de_int da_nil))) (da_cons (de_tup (da_cons de_str (da_cons de_int da_nil))) da_nil))))))))))))))))))
      (dss_cons (ds_set (i := 3) sc__law_any_value.nd rfl (Or.inl rfl) (dcall ok__law_pick hr (by omega) (takes_of rfl rfl rfl rfl) (da_cons (de_v 0) (da_cons de_int da_nil))))
      (dss_cons (ds_if (dt_w (dw_or (dt_cmp op_lt snd_cmp (de_v 1) de_int (nomark _)) (dw_or1 (dt_cmp op_lt snd_cmp (de_v 3) de_int (nomark _)))))
      (dss_one (ds_ret (dcall ok__law_chosen hr (by omega) (takes_of rfl rfl rfl rfl) (da_cons (de_v 0) (da_cons (de_v 2) da_nil)))))
      dss_nil)
      (dss_cons (ds_setLc (i := 4) rfl sc__law_any_value.nd rfl rfl (sw_true rfl rfl rfl (by decide +kernel)) (di_range1 nb_range.no (da_cons (dcall ok__law_pick hr (by omega) (takes_of rfl rfl rfl rfl) (da_cons (de_v 0) (da_cons de_int da_nil))) da_nil)) (blkOk_by (own := [("_law_turn", 5)]) (N := N__law_any_value) (sc := defScope s__law_any_value) (by decide +kernel)) (fun _ _ _ _ _ => (dg_name sc__law_any_value.nd rfl (by first | exact Or.inl rfl | exact Or.inr rfl) (by decide))) (fun _ _ _ _ _ => dts_nil) (fun _ _ _ _ _ => (dcall ok__law_any_value hr (Nat.le_refl _) takes0 (da_cons (de_v 0) (da_cons (de_op op_sub snd_sub (de_v 1) de_int) da_nil)))) rfl (js := [5]) (by decide))
      (dss_one (ds_ret (de_if (dt_cmp (op_eqD hr.units) snd_eq (de_v 3) de_int (nomark _)) (de_v 4) (de_ty call_tuple_of snd_tuple nb_tuple.no PyProof.Rows.boot_tuple (da_cons (de_v 4) da_nil)))))))))
end

/-! #### _law_variant -/
abbrev s__law_variant : Stmt := topS 15
abbrev N__law_variant : List Str := ["_law_source_here", "_law_value", "_law_deep", "_law_some", "_law_spot", "_law_way", "_law_inner", "_law_near"]
theorem sc__law_variant : FnScope N__law_variant ["_law_source_here", "_law_value", "_law_deep"] (defScope s__law_variant) := ⟨rfl, rfl, rfl, by decide +kernel, rfl, by decide +kernel, by decide +kernel⟩
def d__law_variant (self : List S → Mu → Out S) : FS :=
      (sSeq (sSet 3 (eListC (aCons (eV 1) aNil)))
      (sSeq (sIf (bT (eOp eqD (eV 3) (eLst aNil)))
      (sRet (eTup (aCons (eCall 2 (f__law_any_value 4) (aCons (eV 0) (aCons (eC (.int 1)) aNil))) aNil)))
      sNil)
      (sSeq (sPar 4 5 (aCons (eCall 2 f__law_pick (aCons (eV 0) (aCons (eBi lenD (aCons (eV 3) aNil)) aNil))) (aCons (eCall 2 f__law_pick (aCons (eV 0) (aCons (eC (.int 9)) aNil))) aNil)))
      (sSeq (sSet 6 (eOp ixD (eV 3) (eV 4)))
      (sSeq (sIf (bAnd (bT (eBi isiD (aCons (eV 6) (aCons (eC (.ty "tuple")) aNil)))) (bAnd (bT (eOp gtD (eV 2) (eC (.int 0)))) (bT (eOp gtD (eV 5) (eC (.int 2))))))
      (sRet (eOp addD (eOp addD (eBi tupleD (aCons (eSl (eV 3) oNone (oSome (eV 4))) aNil)) (eTup (aCons (eCall 3 self (aCons (eV 0) (aCons (eV 6) (aCons (eOp subD (eV 2) (eC (.int 1))) aNil)))) aNil))) (eBi tupleD (aCons (eSl (eV 3) (oSome (eOp addD (eV 4) (eC (.int 1)))) oNone) aNil))))
      sNil)
      (sSeq (sIf (bT (eOp eqD (eV 5) (eC (.int 0))))
      (sRet (eBi tupleD (aCons (eOp addD (eSl (eV 3) oNone (oSome (eV 4))) (eSl (eV 3) (oSome (eOp addD (eV 4) (eC (.int 1)))) oNone)) aNil)))
      sNil)
      (sSeq (sIf (bT (eOp eqD (eV 5) (eC (.int 1))))
      (sRet (eBi tupleD (aCons (eOp addD (eSl (eV 3) oNone (oSome (eOp addD (eV 4) (eC (.int 1))))) (eSl (eV 3) (oSome (eV 4)) oNone)) aNil)))
      sNil)
      (sSeq (sIf (bT (eOp eqD (eV 5) (eC (.int 2))))
      (sRet (eBi tupleD (aCons (eOp addD (eOp addD (eSl (eV 3) oNone (oSome (eV 4))) (eUn revD (eSl (eV 3) (oSome (eV 4)) (oSome (eOp addD (eV 4) (eC (.int 2))))))) (eSl (eV 3) (oSome (eOp addD (eV 4) (eC (.int 2)))) oNone)) aNil)))
      sNil)
      (sSeq (sIf (bT (eOp eqD (eV 5) (eC (.int 3))))
      (sFrz 3 (sRet (eV 3)))
      sNil)
      (sSeq (sIf (bT (eOp ltD (eV 5) (eC (.int 6))))
      (sSub (eV 3) (eV 4) (eCall 2 (f__law_any_value 4) (aCons (eV 0) (aCons (eC (.int 2)) aNil))))
      (sSeq (sSet 7 (eLst (aCons (eC .non) (aCons (eC (.bl true)) (aCons (eC (.int 0)) (aCons (eC (.int 1)) (aCons (eC (.int 2)) (aCons (eC (.int 6)) (aCons (eC (.int 7)) (aCons (eUn negD (eC (.int 1))) (aCons (eC (.str "")) (aCons (eC (.str "top")) (aCons (eC (.str "but")) (aCons (eC (.str "Top")) (aCons (eTup aNil) (aCons (eTup (aCons (eC (.str "top")) (aCons (eC (.int 0)) aNil))) (aCons (eTup (aCons (eC (.str "but")) (aCons (eC (.int 7)) aNil))) (aCons (eTup (aCons (eC (.str "top")) (aCons (eC (.int 6)) aNil))) aNil))))))))))))))))))
      (sSub (eV 3) (eV 4) (eCall 2 f__law_chosen (aCons (eV 0) (aCons (eOp addD (eV 7) (eLst (aCons (eLst (aCons (eC (.str "top")) (aCons (eC (.int 1)) aNil))) (aCons (eTup (aCons (eC (.str "but")) (aCons (eC (.bl true)) aNil))) (aCons (eTup (aCons (eC (.str "but")) (aCons (eC (.int 0)) (aCons (eC (.int 0)) aNil)))) aNil))))) aNil))))))
      (sRet (eBi tupleD (aCons (eV 3) aNil)))))))))))))
def f__law_variant : Nat → List S → Mu → Out S
  | 0 => fun _ _ => .stk
  | k + 1 => fnD 8 (d__law_variant (f__law_variant k))
section
variable {P : Program} {w : World} {K : PySem.W.Frag} {mg : Str → Option Value} {base : Heap}
theorem at__law_variant (T : At K mg "_law_variant" s__law_variant ["_law_source_here", "_law_value", "_law_deep"]) (ok__law_any_value : FnAt P w K mg base 7 "_law_any_value" 2 (f__law_any_value 4)) (ok__law_pick : FnAt P w K mg base 1 "_law_pick" 2 f__law_pick) (ok__law_chosen : FnAt P w K mg base 2 "_law_chosen" 2 f__law_chosen) (nb_list : NoB mg "list") (nb_len : NoB mg "len") (nb_tuple : NoB mg "tuple") (nb_isinstance : NoB mg "isinstance") : ∀ k : Nat, FnAt P w K mg base (8 + k) "_law_variant" 3 (f__law_variant k)
  | 0 => T.stk
  | k + 1 => by
    have ok__law_variant := at__law_variant T ok__law_any_value ok__law_pick ok__law_chosen nb_list nb_len nb_tuple nb_isinstance k
    refine T.go' (nn := 8) (body := d__law_variant (f__law_variant k)) sc__law_variant (Nat.add_succ _ _) rfl rfl rfl fun f cdv A outer s H E hr => ?_
    exact (dss_cons (ds_set (i := 3) sc__law_variant.nd rfl (Or.inl rfl) (de_listC nb_list.no PyProof.Rows.boot_list (da_cons (de_v 1) da_nil)))
      (dss_cons (ds_if (dt_cmp (op_eqD hr.units) snd_eq (de_v 3) (de_lst da_nil) (nomark _))
      (dss_one (ds_ret (de_tup (da_cons (dcall ok__law_any_value hr (by omega) (takes_of rfl rfl rfl rfl) (da_cons (de_v 0) (da_cons de_int da_nil))) da_nil))))
      dss_nil)
      (dss_cons (ds_par (i := 4) (j := 5) rfl sc__law_variant.nd rfl rfl (by decide) rfl rfl (da_cons (dcall ok__law_pick hr (by omega) (takes_of rfl rfl rfl rfl) (da_cons (de_v 0) (da_cons (de_bi call_lenA snd_len nb_len.no PySem.boot_len (da_cons (de_v 3) da_nil)) da_nil))) (da_cons (dcall ok__law_pick hr (by omega) (takes_of rfl rfl rfl rfl) (da_cons (de_v 0) (da_cons de_int da_nil))) da_nil)) (fun pa => ps_par rfl sc__law_variant.nd rfl rfl (by decide) rfl rfl pa (by rfl)))
      (dss_cons (ds_set (i := 6) sc__law_variant.nd rfl (Or.inl rfl) (de_ix ix_seq snd_ix (de_v 3) (de_v 4) (fun _ _ => rfl)))
      (dss_cons (ds_if (dt_w (dw_and (dt_val (de_bi call_isi snd_isi nb_isinstance.no PyProof.Rows.boot_isinstance (da_cons (de_v 6) (da_cons (de_cls nb_tuple.no PyProof.Rows.boot_tuple) da_nil)))) (dw_and (dt_cmp op_gt snd_cmp (de_v 2) de_int (nomark _)) (dw_and1 (dt_cmp op_gt snd_cmp (de_v 5) de_int (nomark _))))))
      (dss_one (ds_ret (de_op op_addA snd_add (de_op op_addA snd_add (de_ty call_tuple_of snd_tuple nb_tuple.no PyProof.Rows.boot_tuple (da_cons (de_sl (de_v 3) do_none (do_some (de_v 4))) da_nil)) (de_tup (da_cons (dcall ok__law_variant hr (Nat.le_refl _) (takes_of rfl rfl rfl rfl) (da_cons (de_v 0) (da_cons (de_v 6) (da_cons (de_op op_sub snd_sub (de_v 2) de_int) da_nil)))) da_nil))) (de_ty call_tuple_of snd_tuple nb_tuple.no PyProof.Rows.boot_tuple (da_cons (de_sl (de_v 3) (do_some (de_op op_addA snd_add (de_v 4) de_int)) do_none) da_nil)))))
      dss_nil)
      (dss_cons (ds_if (dt_cmp (op_eqD hr.units) snd_eq (de_v 5) de_int (nomark _))
      (dss_one (ds_ret (de_ty call_tuple_of snd_tuple nb_tuple.no PyProof.Rows.boot_tuple (da_cons (de_op op_addA snd_add (de_sl (de_v 3) do_none (do_some (de_v 4))) (de_sl (de_v 3) (do_some (de_op op_addA snd_add (de_v 4) de_int)) do_none)) da_nil))))
      dss_nil)
      (dss_cons (ds_if (dt_cmp (op_eqD hr.units) snd_eq (de_v 5) de_int (nomark _))
      (dss_one (ds_ret (de_ty call_tuple_of snd_tuple nb_tuple.no PyProof.Rows.boot_tuple (da_cons (de_op op_addA snd_add (de_sl (de_v 3) do_none (do_some (de_op op_addA snd_add (de_v 4) de_int))) (de_sl (de_v 3) (do_some (de_v 4)) do_none)) da_nil))))
      dss_nil)
      (dss_cons (ds_if (dt_cmp (op_eqD hr.units) snd_eq (de_v 5) de_int (nomark _))
      (dss_one (ds_ret (de_ty call_tuple_of snd_tuple nb_tuple.no PyProof.Rows.boot_tuple (da_cons (de_op op_addA snd_add (de_op op_addA snd_add (de_sl (de_v 3) do_none (do_some (de_v 4))) (de_revL (de_sl (de_v 3) (do_some (de_v 4)) (do_some (de_op op_addA snd_add (de_v 4) de_int))))) (de_sl (de_v 3) (do_some (de_op op_addA snd_add (de_v 4) de_int)) do_none)) da_nil))))
      dss_nil)
      (dss_cons (ds_if (dt_cmp (op_eqD hr.units) snd_eq (de_v 5) de_int (nomark _))
      (dss_frz 3 (dss_one (ds_ret (de_v 3))))
      dss_nil)
      (dss_cons (ds_if (dt_cmp op_lt snd_cmp (de_v 5) de_int (nomark _))
      (dss_one (ds_sub (de_v 3) (de_v 4) (dcall ok__law_any_value hr (by omega) (takes_of rfl rfl rfl rfl) (da_cons (de_v 0) (da_cons de_int da_nil))) (fun po pi pe => ps_asg pe (pg_sub po pi set_list))))
      (dss_cons (ds_set (i := 7) sc__law_variant.nd rfl (Or.inl rfl) (de_lst (da_cons de_non (da_cons de_bl (da_cons de_int (da_cons de_int (da_cons de_int (da_cons de_int (da_cons de_int (da_cons (de_un un_neg snd_neg de_int) (da_cons de_str (da_cons de_str (da_cons de_str (da_cons de_str (da_cons (de_tup da_nil) (da_cons (de_tup (da_cons de_str (da_cons de_int da_nil))) (da_cons (de_tup (da_cons de_str (da_cons de_int da_nil))) (da_cons (de_tup (da_cons de_str (da_cons de_int da_nil))) da_nil))))))))))))))))))
      (dss_one (ds_sub (de_v 3) (de_v 4) (dcall ok__law_chosen hr (by omega) (takes_of rfl rfl rfl rfl) (da_cons (de_v 0) (da_cons (de_op op_addA snd_add (de_v 7) (de_lst (da_cons (de_lst (da_cons de_str (da_cons de_int da_nil))) (da_cons (de_tup (da_cons de_str (da_cons de_bl da_nil))) (da_cons (de_tup (da_cons de_str (da_cons de_int (da_cons de_int da_nil)))) da_nil))))) da_nil))) (fun po pi pe => ps_asg pe (pg_sub po pi set_list))))))
      (dss_one (ds_ret (de_ty call_tuple_of snd_tuple nb_tuple.no PyProof.Rows.boot_tuple (da_cons (de_v 3) da_nil))))))))))))))
end

/-! #### _law_flip -/
abbrev s__law_flip : Stmt := topS 16
abbrev N__law_flip : List Str := ["_law_source_here", "_law_way"]
theorem sc__law_flip : FnScope N__law_flip ["_law_source_here"] (defScope s__law_flip) := ⟨rfl, rfl, rfl, by decide +kernel, rfl, by decide +kernel, by decide +kernel⟩
def d__law_flip : FS :=
      (sSeq (sSet 1 (eCall 2 f__law_pick (aCons (eV 0) (aCons (eC (.int 13)) aNil))))
      (sRet (eIf (bT (eOp ltD (eV 1) (eC (.int 7)))) (eTup (aCons (eC (.str "but")) (aCons (eV 1) aNil))) (eTup (aCons (eC (.str "top")) (aCons (eOp subD (eV 1) (eC (.int 6))) aNil))))))
def f__law_flip : List S → Mu → Out S := fnD 2 d__law_flip
section
variable {P : Program} {w : World} {K : PySem.W.Frag} {mg : Str → Option Value} {base : Heap}
theorem at__law_flip (T : At K mg "_law_flip" s__law_flip ["_law_source_here"]) (ok__law_pick : FnAt P w K mg base 1 "_law_pick" 2 f__law_pick) : FnAt P w K mg base 2 "_law_flip" 1 f__law_flip := by
  refine T.go' (k := 1) (nn := 2) (body := d__law_flip) sc__law_flip rfl rfl rfl rfl fun f cdv A outer s H E hr => ?_
  exact (dss_cons (ds_set (i := 1) sc__law_flip.nd rfl (Or.inl rfl) (dcall ok__law_pick hr (by decide) (takes_of rfl rfl rfl rfl) (da_cons (de_v 0) (da_cons de_int da_nil))))
      (dss_one (ds_ret (de_if (dt_cmp op_lt snd_cmp (de_v 1) de_int (nomark _)) (de_tup (da_cons de_str (da_cons (de_v 1) da_nil))) (de_tup (da_cons de_str (da_cons (de_op op_sub snd_sub (de_v 1) de_int) da_nil)))))))
end

/-! #### _law_script -/
abbrev s__law_script : Stmt := topS 17
abbrev N__law_script : List Str := ["_law_source_here", "_law_most_so", "_law_turn"]
theorem sc__law_script : FnScope N__law_script ["_law_source_here", "_law_most_so"] (defScope s__law_script) := ⟨rfl, rfl, rfl, by decide +kernel, rfl, by decide +kernel, by decide +kernel⟩
def d__law_script : FS :=
      (sRet (eBi tupleD (aCons (eLc (iRange1 (aCons (eCall 2 f__law_pick (aCons (eV 0) (aCons (eOp addD (eV 1) (eC (.int 1))) aNil))) aNil)) (gN 2) bYes (eCall 1 f__law_flip (aCons (eV 0) aNil)) [2]) aNil)))
def f__law_script : List S → Mu → Out S := fnD 3 d__law_script
section
variable {P : Program} {w : World} {K : PySem.W.Frag} {mg : Str → Option Value} {base : Heap}
theorem at__law_script (T : At K mg "_law_script" s__law_script ["_law_source_here", "_law_most_so"]) (ok__law_pick : FnAt P w K mg base 1 "_law_pick" 2 f__law_pick) (ok__law_flip : FnAt P w K mg base 2 "_law_flip" 1 f__law_flip) (nb_range : NoB mg "range") (nb_tuple : NoB mg "tuple") : FnAt P w K mg base 3 "_law_script" 2 f__law_script := by
  refine T.go' (k := 2) (nn := 3) (body := d__law_script) sc__law_script rfl rfl rfl rfl fun f cdv A outer s H E hr => ?_
  exact (dss_one (ds_ret (de_ty call_tuple_of snd_tuple nb_tuple.no PyProof.Rows.boot_tuple (da_cons (de_lc rfl sc__law_script.nd (di_range1 nb_range.no (da_cons (dcall ok__law_pick hr (by decide) (takes_of rfl rfl rfl rfl) (da_cons (de_v 0) (da_cons (de_op op_addA snd_add (de_v 1) de_int) da_nil))) da_nil)) (blkOk_by (own := [("_law_turn", 2)]) (N := N__law_script) (sc := defScope s__law_script) (by decide +kernel)) (fun _ _ _ _ _ => (dg_name sc__law_script.nd rfl (by first | exact Or.inl rfl | exact Or.inr rfl) (by decide))) (fun _ _ _ _ _ => dts_nil) (fun _ _ _ _ _ => (dcall ok__law_flip hr (by decide) takes0 (da_cons (de_v 0) da_nil))) rfl (js := [2]) (by decide)) da_nil))))
end

/-! #### _law_good_flip -/
abbrev s__law_good_flip : Stmt := topS 18
abbrev N__law_good_flip : List Str := ["_law_value"]
theorem sc__law_good_flip : FnScope N__law_good_flip ["_law_value"] (defScope s__law_good_flip) := ⟨rfl, rfl, rfl, by decide +kernel, rfl, by decide +kernel, by decide +kernel⟩
def d__law_good_flip : FS :=
      (sSeq (sIf (bOr (bNot (bT (eBi isiD (aCons (eV 0) (aCons (eC (.ty "tuple")) aNil))))) (bOr (bT (eOp neD (eBi lenD (aCons (eV 0) aNil)) (eC (.int 2)))) (bNot (bT (eBi isiD (aCons (eOp ixD (eV 0) (eC (.int 0))) (aCons (eC (.ty "str")) aNil)))))))
      (sRet (eC (.bl false)))
      sNil)
      (sRet (eAnd (eOp inLD (eOp ixD (eV 0) (eC (.int 0))) (eLst (aCons (eC (.str "top")) (aCons (eC (.str "but")) aNil)))) (eCall 3 f__law_whole (aCons (eOp ixD (eV 0) (eC (.int 1))) (aCons (eBi intD (aCons (eOp eqD (eOp ixD (eV 0) (eC (.int 0))) (eC (.str "top"))) aNil)) (aCons (eC (.int 6)) aNil)))))))
def f__law_good_flip : List S → Mu → Out S := fnD 1 d__law_good_flip
section
variable {P : Program} {w : World} {K : PySem.W.Frag} {mg : Str → Option Value} {base : Heap}
theorem at__law_good_flip (T : At K mg "_law_good_flip" s__law_good_flip ["_law_value"]) (ok__law_whole : FnAt P w K mg base 1 "_law_whole" 3 f__law_whole) (nb_tuple : NoB mg "tuple") (nb_isinstance : NoB mg "isinstance") (nb_len : NoB mg "len") (nb_str : NoB mg "str") (nb_int : NoB mg "int") : FnAt P w K mg base 2 "_law_good_flip" 1 f__law_good_flip := by
  refine T.go' (k := 1) (nn := 1) (body := d__law_good_flip) sc__law_good_flip rfl rfl rfl rfl fun f cdv A outer s H E hr => ?_
  exact (dss_cons (ds_if (dt_w (dw_or (dt_not (dt_val (de_bi call_isi snd_isi nb_isinstance.no PyProof.Rows.boot_isinstance (da_cons (de_v 0) (da_cons (de_cls nb_tuple.no PyProof.Rows.boot_tuple) da_nil))))) (dw_or (dt_cmp (op_neD hr.units) snd_ne (de_bi call_lenA snd_len nb_len.no PySem.boot_len (da_cons (de_v 0) da_nil)) de_int (nomark _)) (dw_or1 (dt_not (dt_val (de_bi call_isi snd_isi nb_isinstance.no PyProof.Rows.boot_isinstance (da_cons (de_ix ix_seq snd_ix (de_v 0) de_int (fun _ _ => rfl)) (da_cons (de_cls nb_str.no (by decide +kernel)) da_nil)))))))))
      (dss_one (ds_ret de_bl))
      dss_nil)
      (dss_one (ds_ret (de_and (de_cmp (op_inD (hr65 hr)) snd_inL (de_ix ix_seq snd_ix (de_v 0) de_int (fun _ _ => rfl)) (de_lst (da_cons de_str (da_cons de_str da_nil))) rfl) (de_one (dcall ok__law_whole hr (by decide) (takes_of rfl rfl rfl rfl) (da_cons (de_ix ix_seq snd_ix (de_v 0) de_int (fun _ _ => rfl)) (da_cons (de_ty call_int1 snd_int nb_int.no PyProof.Rows.boot_int (da_cons (de_cmp (op_eqD hr.units) snd_eq (de_ix ix_seq snd_ix (de_v 0) de_int (fun _ _ => rfl)) de_str (nomark _)) da_nil)) (da_cons de_int da_nil)))))))))
end

/-! #### _law_right -/
abbrev s__law_right : Stmt := topS 19
abbrev N__law_right : List Str := ["_law_value", "_law_good", "_law_flip_here"]
theorem sc__law_right : FnScope N__law_right ["_law_value"] (defScope s__law_right) := ⟨rfl, rfl, rfl, by decide +kernel, rfl, by decide +kernel, by decide +kernel⟩
def d__law_right : FS :=
      (sSeq (sSet 1 (eAnd (eBi isiD (aCons (eV 0) (aCons (eC (.ty "tuple")) aNil))) (eOp ltD (eBi lenD (aCons (eV 0) aNil)) (eC (.int 9)))))
      (sSeq (sIf (bT (eV 1))
      (sSet 1 (eOp eqD (eLc (iSeq (eV 0)) (gN 2) (bNot (bT (eCall 1 f__law_good_flip (aCons (eV 2) aNil)))) (eC (.int 1)) [2]) (eLst aNil)))
      sNil)
      (sRet (eAnd (eCall 2 f__law_is_bool (aCons (eCall 1 f_is_script (aCons (eV 0) aNil)) (aCons (eV 1) aNil))) (eCall 2 f__law_is_bool (aCons (eCall 1 f_is_flip (aCons (eV 0) aNil)) (aCons (eCall 1 f__law_good_flip (aCons (eV 0) aNil)) aNil)))))))
def f__law_right : List S → Mu → Out S := fnD 3 d__law_right
section
variable {P : Program} {w : World} {K : PySem.W.Frag} {mg : Str → Option Value} {base : Heap}
theorem at__law_right (T : At K mg "_law_right" s__law_right ["_law_value"]) (ok__law_good_flip : FnAt P w K mg base 2 "_law_good_flip" 1 f__law_good_flip) (ok__law_is_bool : FnAt P w K mg base 1 "_law_is_bool" 2 f__law_is_bool) (ok_is_script : FnAt P w K mg base 5 "is_script" 1 f_is_script) (ok_is_flip : FnAt P w K mg base 3 "is_flip" 1 f_is_flip) (nb_tuple : NoB mg "tuple") (nb_isinstance : NoB mg "isinstance") (nb_len : NoB mg "len") : FnAt P w K mg base 6 "_law_right" 1 f__law_right := by
  refine T.go' (k := 5) (nn := 3) (body := d__law_right) sc__law_right rfl rfl rfl rfl fun f cdv A outer s H E hr => ?_
  exact (dss_cons (ds_set (i := 1) sc__law_right.nd rfl (Or.inl rfl) (de_and (de_bi call_isi snd_isi nb_isinstance.no PyProof.Rows.boot_isinstance (da_cons (de_v 0) (da_cons (de_cls nb_tuple.no PyProof.Rows.boot_tuple) da_nil))) (de_one (de_cmp op_lt snd_cmp (de_bi call_lenA snd_len nb_len.no PySem.boot_len (da_cons (de_v 0) da_nil)) de_int (nomark _)))))
      (dss_cons (ds_if (dt_val (de_v 1))
      (dss_one (ds_set (i := 1) sc__law_right.nd rfl (Or.inl rfl) (de_cmp (op_eqD hr.units) snd_eq (de_lc rfl sc__law_right.nd (di_seq (de_v 0)) (blkOk_by (own := [("_law_flip_here", 2)]) (N := N__law_right) (sc := defScope s__law_right) (by decide +kernel)) (fun _ _ _ _ _ => (dg_name sc__law_right.nd rfl (by first | exact Or.inl rfl | exact Or.inr rfl) (by decide))) (fun _ _ _ _ _ => (dts_one (dt_not (dt_val (dcall ok__law_good_flip hr (by decide) takes0 (da_cons (de_v 2) da_nil)))))) (fun _ _ _ _ _ => de_int) rfl (js := [2]) (by decide)) (de_lst da_nil) (nomark _))))
      dss_nil)
      (dss_one (ds_ret (de_and (dcall ok__law_is_bool hr (by decide) (takes_of rfl rfl rfl rfl) (da_cons (dcall ok_is_script hr (by decide) (takes_of rfl rfl rfl rfl) (da_cons (de_v 0) da_nil)) (da_cons (de_v 1) da_nil))) (de_one (dcall ok__law_is_bool hr (by decide) (takes_of rfl rfl rfl rfl) (da_cons (dcall ok_is_flip hr (by decide) (takes_of rfl rfl rfl rfl) (da_cons (de_v 0) da_nil)) (da_cons (dcall ok__law_good_flip hr (by decide) (takes_of rfl rfl rfl rfl) (da_cons (de_v 0) da_nil)) da_nil)))))))))
end

/-! #### _law_written -/
abbrev s__law_written : Stmt := topS 20
abbrev N__law_written : List Str := ["_law_some", "_law_odd", "_law_value"]
theorem sc__law_written : FnScope N__law_written [] (defScope s__law_written) := ⟨rfl, rfl, rfl, by decide +kernel, rfl, by decide +kernel, by decide +kernel⟩
def d__law_written : FS :=
      (sSeq (sSet 0 (eLst (aCons (eTup (aCons (eC (.str "top")) (aCons (eC (.int 1)) aNil))) (aCons (eTup (aCons (eC (.str "top")) (aCons (eC (.int 6)) aNil))) (aCons (eTup (aCons (eC (.str "but")) (aCons (eC (.int 0)) aNil))) (aCons (eTup (aCons (eC (.str "but")) (aCons (eC (.int 6)) aNil))) aNil))))))
      (sSeq (sSet 1 (eLst (aCons (eTup (aCons (eC (.str "top")) (aCons (eC (.int 0)) aNil))) (aCons (eTup (aCons (eC (.str "top")) (aCons (eC (.int 7)) aNil))) (aCons (eTup (aCons (eC (.str "but")) (aCons (eUn negD (eC (.int 1))) aNil))) (aCons (eTup (aCons (eC (.str "but")) (aCons (eC (.int 7)) aNil))) (aCons (eTup (aCons (eC (.str "but")) (aCons (eC (.bl true)) aNil))) aNil)))))))
      (sSeq (sSet 1 (eOp addD (eV 1) (eLst (aCons (eLst (aCons (eC (.str "top")) (aCons (eC (.int 1)) aNil))) (aCons (eTup (aCons (eC (.str "top")) aNil)) (aCons (eTup (aCons (eC (.str "Top")) (aCons (eC (.int 1)) aNil))) (aCons (eTup (aCons (eC (.str "top")) (aCons (eC (.int 1)) (aCons (eC (.int 1)) aNil)))) (aCons (eC (.str "top1")) aNil))))))))
      (sSeq (sIf (bOr (bT (eOp neD (eLc (iSeq (eV 0)) (gN 2) bYes (eCall 1 f_is_flip (aCons (eV 2) aNil)) [2]) (eOp mulD (eLst (aCons (eC (.bl true)) aNil)) (eC (.int 4))))) (bT (eOp neD (eLc (iSeq (eV 1)) (gN 2) bYes (eCall 1 f_is_flip (aCons (eV 2) aNil)) [2]) (eOp mulD (eLst (aCons (eC (.bl false)) aNil)) (eC (.int 10))))))
      (sRet (eC (.bl false)))
      sNil)
      (sSeq (sIf (bOr (bNot (bT (eCall 1 f_is_script (aCons (eTup aNil) aNil)))) (bOr (bNot (bT (eCall 1 f_is_script (aCons (eOp mulD (eBi tupleD (aCons (eV 0) aNil)) (eC (.int 2))) aNil)))) (bT (eCall 1 f_is_script (aCons (eOp addD (eOp mulD (eBi tupleD (aCons (eV 0) aNil)) (eC (.int 2))) (eTup (aCons (eTup (aCons (eC (.str "top")) (aCons (eC (.int 1)) aNil))) aNil))) aNil)))))
      (sRet (eC (.bl false)))
      sNil)
      (sSeq (sIf (bT (eOp neD (eLc (iSeq (eV 1)) (gN 2) bYes (eCall 1 f_is_script (aCons (eTup (aCons (eV 2) aNil)) aNil)) [2]) (eOp mulD (eLst (aCons (eC (.bl false)) aNil)) (eC (.int 10)))))
      (sRet (eC (.bl false)))
      sNil)
      (sRet (eAnd (eNot (eCall 1 f_is_script (aCons (eTup (aCons (eC (.str "top")) (aCons (eC (.int 1)) aNil))) aNil))) (eNot (eCall 1 f_is_script (aCons (eLst aNil) aNil)))))))))))
def f__law_written : List S → Mu → Out S := fnD 3 d__law_written
section
variable {P : Program} {w : World} {K : PySem.W.Frag} {mg : Str → Option Value} {base : Heap}
theorem at__law_written (T : At K mg "_law_written" s__law_written []) (ok_is_flip : FnAt P w K mg base 3 "is_flip" 1 f_is_flip) (ok_is_script : FnAt P w K mg base 5 "is_script" 1 f_is_script) (nb_tuple : NoB mg "tuple") : FnAt P w K mg base 6 "_law_written" 0 f__law_written := by
  refine T.go' (k := 5) (nn := 3) (body := d__law_written) sc__law_written rfl rfl rfl rfl fun f cdv A outer s H E hr => ?_
  exact (dss_cons (ds_set (i := 0) sc__law_written.nd rfl (Or.inl rfl) (de_lst (da_cons (de_tup (da_cons de_str (da_cons de_int da_nil))) (da_cons (de_tup (da_cons de_str (da_cons de_int da_nil))) (da_cons (de_tup (da_cons de_str (da_cons de_int da_nil))) (da_cons (de_tup (da_cons de_str (da_cons de_int da_nil))) da_nil))))))
      (dss_cons (ds_set (i := 1) sc__law_written.nd rfl (Or.inl rfl) (de_lst (da_cons (de_tup (da_cons de_str (da_cons de_int da_nil))) (da_cons (de_tup (da_cons de_str (da_cons de_int da_nil))) (da_cons (de_tup (da_cons de_str (da_cons (de_un un_neg snd_neg de_int) da_nil))) (da_cons (de_tup (da_cons de_str (da_cons de_int da_nil))) (da_cons (de_tup (da_cons de_str (da_cons de_bl da_nil))) da_nil)))))))
      (dss_cons (ds_set (i := 1) sc__law_written.nd rfl (Or.inl rfl) (de_op op_addA snd_add (de_v 1) (de_lst (da_cons (de_lst (da_cons de_str (da_cons de_int da_nil))) (da_cons (de_tup (da_cons de_str da_nil)) (da_cons (de_tup (da_cons de_str (da_cons de_int da_nil))) (da_cons (de_tup (da_cons de_str (da_cons de_int (da_cons de_int da_nil)))) (da_cons de_str da_nil))))))))
      (dss_cons (ds_if (dt_w (dw_or (dt_cmp (op_neD hr.units) snd_ne (de_lc rfl sc__law_written.nd (di_seq (de_v 0)) (blkOk_by (own := [("_law_value", 2)]) (N := N__law_written) (sc := defScope s__law_written) (by decide +kernel)) (fun _ _ _ _ _ => (dg_name sc__law_written.nd rfl (by first | exact Or.inl rfl | exact Or.inr rfl) (by decide))) (fun _ _ _ _ _ => dts_nil) (fun _ _ _ _ _ => (dcall ok_is_flip hr (by decide) takes0 (da_cons (de_v 2) da_nil))) rfl (js := [2]) (by decide)) (de_op op_mulA snd_mul (de_lst (da_cons de_bl da_nil)) de_int) (nomark _)) (dw_or1 (dt_cmp (op_neD hr.units) snd_ne (de_lc rfl sc__law_written.nd (di_seq (de_v 1)) (blkOk_by (own := [("_law_value", 2)]) (N := N__law_written) (sc := defScope s__law_written) (by decide +kernel)) (fun _ _ _ _ _ => (dg_name sc__law_written.nd rfl (by first | exact Or.inl rfl | exact Or.inr rfl) (by decide))) (fun _ _ _ _ _ => dts_nil) (fun _ _ _ _ _ => (dcall ok_is_flip hr (by decide) takes0 (da_cons (de_v 2) da_nil))) rfl (js := [2]) (by decide)) (de_op op_mulA snd_mul (de_lst (da_cons de_bl da_nil)) de_int) (nomark _)))))
      (dss_one (ds_ret de_bl))
      dss_nil)
      (dss_cons (ds_if (dt_w (dw_or (dt_not (dt_val (dcall ok_is_script hr (by decide) (takes_of rfl rfl rfl rfl) (da_cons (de_tup da_nil) da_nil)))) (dw_or (dt_not (dt_val (dcall ok_is_script hr (by decide) (takes_of rfl rfl rfl rfl) (da_cons (de_op op_mulA snd_mul (de_ty call_tuple_of snd_tuple nb_tuple.no PyProof.Rows.boot_tuple (da_cons (de_v 0) da_nil)) de_int) da_nil)))) (dw_or1 (dt_val (dcall ok_is_script hr (by decide) (takes_of rfl rfl rfl rfl) (da_cons (de_op op_addA snd_add (de_op op_mulA snd_mul (de_ty call_tuple_of snd_tuple nb_tuple.no PyProof.Rows.boot_tuple (da_cons (de_v 0) da_nil)) de_int) (de_tup (da_cons (de_tup (da_cons de_str (da_cons de_int da_nil))) da_nil))) da_nil)))))))
      (dss_one (ds_ret de_bl))
      dss_nil)
      (dss_cons (ds_if (dt_cmp (op_neD hr.units) snd_ne (de_lc rfl sc__law_written.nd (di_seq (de_v 1)) (blkOk_by (own := [("_law_value", 2)]) (N := N__law_written) (sc := defScope s__law_written) (by decide +kernel)) (fun _ _ _ _ _ => (dg_name sc__law_written.nd rfl (by first | exact Or.inl rfl | exact Or.inr rfl) (by decide))) (fun _ _ _ _ _ => dts_nil) (fun _ _ _ _ _ => (dcall ok_is_script hr (by decide) takes0 (da_cons (de_tup (da_cons (de_v 2) da_nil)) da_nil))) rfl (js := [2]) (by decide)) (de_op op_mulA snd_mul (de_lst (da_cons de_bl da_nil)) de_int) (nomark _))
      (dss_one (ds_ret de_bl))
      dss_nil)
      (dss_one (ds_ret (de_and (de_not (dcall ok_is_script hr (by decide) (takes_of rfl rfl rfl rfl) (da_cons (de_tup (da_cons de_str (da_cons de_int da_nil))) da_nil))) (de_one (de_not (dcall ok_is_script hr (by decide) (takes_of rfl rfl rfl rfl) (da_cons (de_lst da_nil) da_nil)))))))))))))
end

/-! #### law -/
abbrev s_law : Stmt := topS 21
abbrev N_law : List Str := ["_law_script_here", "_law_k", "_law_source_here", "_law_script_so", "_law_value", "_law_turn", "_law_other"]
theorem sc_law : FnScope N_law ["_law_script_here"] (defScope s_law) := ⟨rfl, rfl, rfl, by decide +kernel, rfl, by decide +kernel, by decide +kernel⟩
def lb1_law : FS :=
      (sIf (bNot (bT (eCall 1 f__law_right (aCons (eV 4) aNil))))
      (sRet (eC (.bl false)))
      sNil)
def lb2_law : FS :=
      (sSeq (sSet 6 (eCall 3 (f__law_variant 3) (aCons (eV 2) (aCons (eV 3) (aCons (eC (.int 2)) aNil)))))
      (sSeq (sIf (bOr (bNot (bT (eCall 1 f__law_right (aCons (eV 6) aNil)))) (bNot (bT (eCall 1 f__law_right (aCons (eCall 3 (f__law_variant 3) (aCons (eV 2) (aCons (eBi tupleD (aCons (eV 6) aNil)) (aCons (eC (.int 2)) aNil)))) aNil)))))
      (sRet (eC (.bl false)))
      sNil)
      (sIf (bOr (bNot (bT (eCall 1 f__law_right (aCons (eCall 2 (f__law_any_value 4) (aCons (eV 2) (aCons (eC (.int 3)) aNil))) aNil)))) (bNot (bT (eCall 1 f__law_right (aCons (eCall 1 f__law_flip (aCons (eV 2) aNil)) aNil)))))
      (sRet (eC (.bl false)))
      sNil)))
def lb3_law : FS :=
      (sSeq (sSet 2 (eCall 2 f__law_source (aCons (eV 0) (aCons (eV 1) aNil))))
      (sSeq (sSet 3 (eCall 2 f__law_script (aCons (eV 2) (aCons (eC (.int 8)) aNil))))
      (sSeq (sIf (bNot (bT (eCall 1 f_is_script (aCons (eV 3) aNil))))
      (sRet (eC (.bl false)))
      sNil)
      (sSeq (sFor (iSeq (eLst (aCons (eV 3) (aCons (eBi listD (aCons (eV 3) aNil)) (aCons (eOp mulD (eSl (eV 3) oNone (oSome (eC (.int 1)))) (eC (.int 9))) (aCons (eIf (bT (eOp neD (eV 3) (eTup aNil))) (eOp ixD (eV 3) (eC (.int 0))) (eC .non)) aNil)))))) (gN 4)
      lb1_law)
      (sFor (iRange1 (aCons (eC (.int 10)) aNil)) (gN 5)
      lb2_law)))))
def d_law : FS :=
      (sSeq (sFor (iRange1 (aCons (eBi max2D (aCons (eC (.int 6)) (aCons (eBi min2D (aCons (eC (.int 16)) (aCons (eBi lenD (aCons (eV 0) aNil)) aNil))) aNil))) aNil)) (gN 1)
      lb3_law)
      (sRet (eCall0 f__law_written)))
def f_law : List S → Mu → Out S := fnD 7 d_law
section
variable {P : Program} {w : World} {K : PySem.W.Frag} {mg : Str → Option Value} {base : Heap}
theorem at_law {f : Addr} {fd : FuncData} (F : Fun K "law" "law" s_law f fd) (ok__law_source : FnAt P w K mg base 1 "_law_source" 2 f__law_source) (ok__law_script : FnAt P w K mg base 3 "_law_script" 2 f__law_script) (ok_is_script : FnAt P w K mg base 5 "is_script" 1 f_is_script) (ok__law_right : FnAt P w K mg base 6 "_law_right" 1 f__law_right) (ok__law_variant : FnAt P w K mg base 11 "_law_variant" 3 (f__law_variant 3)) (ok__law_any_value : FnAt P w K mg base 7 "_law_any_value" 2 (f__law_any_value 4)) (ok__law_flip : FnAt P w K mg base 2 "_law_flip" 1 f__law_flip) (ok__law_written : FnAt P w K mg base 6 "_law_written" 0 f__law_written) (nb_range : NoB mg "range") (nb_len : NoB mg "len") (nb_min : NoB mg "min") (nb_max : NoB mg "max") (nb_list : NoB mg "list") (nb_tuple : NoB mg "tuple") : FnOk P w K mg base (L2.CX P w) 12 f fd ["_law_script_here"] (spD K mg 1 f_law) := by
  refine fn_go (k := 11) (nn := 7) (body := d_law) F sc_law rfl rfl rfl rfl fun f cdv A outer s H E hr => ?_
  exact (dss_cons (ds_for (js := [1]) (passes_of rfl) rfl (di_range1 nb_range.no (da_cons (de_bi (call_max2 rfl) snd_max2 nb_max.no PyProof.Rows.boot_max (da_cons de_int (da_cons (de_bi (call_min2 rfl) snd_min2 nb_min.no PyProof.Rows.boot_min (da_cons de_int (da_cons (de_bi call_lenA snd_len nb_len.no PySem.boot_len (da_cons (de_v 0) da_nil)) da_nil))) da_nil))) da_nil)) (dg_name sc_law.nd rfl (by first | exact Or.inl rfl | exact Or.inr rfl) (by decide))
      (dss_cons (ds_set (i := 2) sc_law.nd rfl (Or.inl rfl) (dcall ok__law_source hr (by decide) (takes_of rfl rfl rfl rfl) (da_cons (de_v 0) (da_cons (de_v 1) da_nil))))
      (dss_cons (ds_set (i := 3) sc_law.nd rfl (Or.inl rfl) (dcall ok__law_script hr (by decide) (takes_of rfl rfl rfl rfl) (da_cons (de_v 2) (da_cons de_int da_nil))))
      (dss_cons (ds_if (dt_not (dt_val (dcall ok_is_script hr (by decide) (takes_of rfl rfl rfl rfl) (da_cons (de_v 3) da_nil))))
      (dss_one (ds_ret de_bl))
      dss_nil)
      (dss_cons (ds_for (js := [4]) (passes_of rfl) rfl (di_seq (de_lst (da_cons (de_v 3) (da_cons (de_ty call_list_of snd_list nb_list.no PyProof.Rows.boot_list (da_cons (de_v 3) da_nil)) (da_cons (de_op op_mulA snd_mul (de_sl (de_v 3) do_none (do_some de_int)) de_int) (da_cons (de_if (dt_cmp (op_neD hr.units) snd_ne (de_v 3) (de_tup da_nil) (nomark _)) (de_ix ix_seq snd_ix (de_v 3) de_int (fun _ _ => rfl)) de_non) da_nil)))))) (dg_name sc_law.nd rfl (by first | exact Or.inl rfl | exact Or.inr rfl) (by decide))
      (dss_one (ds_if (dt_not (dt_val (dcall ok__law_right hr (by decide) (takes_of rfl rfl rfl rfl) (da_cons (de_v 4) da_nil))))
      (dss_one (ds_ret de_bl))
      dss_nil)))
      (dss_one (ds_for (js := [5]) (passes_of rfl) rfl (di_range1 nb_range.no (da_cons de_int da_nil)) (dg_name sc_law.nd rfl (by first | exact Or.inl rfl | exact Or.inr rfl) (by decide))
      (dss_cons (ds_set (i := 6) sc_law.nd rfl (Or.inl rfl) (dcall ok__law_variant hr (by decide) (takes_of rfl rfl rfl rfl) (da_cons (de_v 2) (da_cons (de_v 3) (da_cons de_int da_nil)))))
      (dss_cons (ds_if (dt_w (dw_or (dt_not (dt_val (dcall ok__law_right hr (by decide) (takes_of rfl rfl rfl rfl) (da_cons (de_v 6) da_nil)))) (dw_or1 (dt_not (dt_val (dcall ok__law_right hr (by decide) (takes_of rfl rfl rfl rfl) (da_cons (dcall ok__law_variant hr (by decide) (takes_of rfl rfl rfl rfl) (da_cons (de_v 2) (da_cons (de_ty call_tuple_of snd_tuple nb_tuple.no PyProof.Rows.boot_tuple (da_cons (de_v 6) da_nil)) (da_cons de_int da_nil)))) da_nil)))))))
      (dss_one (ds_ret de_bl))
      dss_nil)
      (dss_one (ds_if (dt_w (dw_or (dt_not (dt_val (dcall ok__law_right hr (by decide) (takes_of rfl rfl rfl rfl) (da_cons (dcall ok__law_any_value hr (by decide) (takes_of rfl rfl rfl rfl) (da_cons (de_v 2) (da_cons de_int da_nil))) da_nil)))) (dw_or1 (dt_not (dt_val (dcall ok__law_right hr (by decide) (takes_of rfl rfl rfl rfl) (da_cons (dcall ok__law_flip hr (by decide) (takes_of rfl rfl rfl rfl) (da_cons (de_v 2) da_nil)) da_nil)))))))
      (dss_one (ds_ret de_bl))
      dss_nil)))))))))))
      (dss_one (ds_ret (dcall0 ok__law_written hr (by decide) (takes_of rfl rfl rfl rfl)))))
end
end Law

set_option maxHeartbeats 2000000
namespace Law
open PySem PySem.Spec PyProof.Rows L2 GF
theorem e_pick : f__law_pick = g_pick := rfl
theorem e_source : f__law_source = g_source := rfl
theorem e_chosen : f__law_chosen = g_chosen := rfl
theorem e_flip : f__law_flip = g_flip := rfl
theorem e_script : f__law_script = g_script := rfl

/-! ### the program's answers -/
def isIntB (d : D) (lo hi : Int) : Bool := match d with
  | .int i => decide (lo ≤ i) && decide (i ≤ hi)
  | _ => false
theorem is_int_ok {k : Nat} {d : D} {lo hi : Int} {μ : Mu} (h : dat k d = true) : f_is_int [.d d, .d (.int lo), .d (.int hi)] μ = .ok (.d (.bl (isIntB d lo hi))) μ := by
  unfold f_is_int fnD d_is_int
  have er : rho0 3 [S.d d, .d (.int lo), .d (.int hi)] = [some (.d d), some (.d (.int lo)), some (.d (.int hi))] := rfl
  rw [er]
  cases d with
  | scr _ => simp [dat] at h
  | fn _ => simp [dat] at h
  | ty _ => simp [dat] at h
  | int i =>
    by_cases c : lo ≤ i
    · simp [sSeq, sIf, sNil, sSet, sRet, sRetN, sExpr, sPar, sAsg, sSub, sApp, putCell, bT, bNot, bAnd, bOr, eOp, eV, eC, eIf, eAnd, eOr, eNot, eUn, eBi, eCall, eCall0, eTup, eLst, eCell, eListC, eSl, eChain, eLc, aCons, aNil, oNone, oSome, asI, asB, op1, op2, op3, opA, opLC, viewA, view, allD, mkTup, mkLst, mkCell, mkL, Out.bind, toS, toSB, toSA, toSI, iSeq, seqOf, iRange1, iRange2, rng1, rng2, cmpD, addD, subD, modD, lenD, GF.intD, listD, tupleD, isiD, isiB, ixD, eqD, neD, inLD, notInLD, isND, notND, isNon, negD, revD, slD, max2D, min2D, absD, retS, wipeR, isIntB, c]
    · simp [sSeq, sIf, sNil, sSet, sRet, sRetN, sExpr, sPar, sAsg, sSub, sApp, putCell, bT, bNot, bAnd, bOr, eOp, eV, eC, eIf, eAnd, eOr, eNot, eUn, eBi, eCall, eCall0, eTup, eLst, eCell, eListC, eSl, eChain, eLc, aCons, aNil, oNone, oSome, asI, asB, op1, op2, op3, opA, opLC, viewA, view, allD, mkTup, mkLst, mkCell, mkL, Out.bind, toS, toSB, toSA, toSI, iSeq, seqOf, iRange1, iRange2, rng1, rng2, cmpD, addD, subD, modD, lenD, GF.intD, listD, tupleD, isiD, isiB, ixD, eqD, neD, inLD, notInLD, isND, notND, isNon, negD, revD, slD, max2D, min2D, absD, retS, wipeR, isIntB, c]
  | _ => simp [sSeq, sIf, sNil, sSet, sRet, sRetN, sExpr, sPar, sAsg, sSub, sApp, putCell, bT, bNot, bAnd, bOr, eOp, eV, eC, eIf, eAnd, eOr, eNot, eUn, eBi, eCall, eCall0, eTup, eLst, eCell, eListC, eSl, eChain, eLc, aCons, aNil, oNone, oSome, asI, asB, op1, op2, op3, opA, opLC, viewA, view, allD, mkTup, mkLst, mkCell, mkL, Out.bind, toS, toSB, toSA, toSI, iSeq, seqOf, iRange1, iRange2, rng1, rng2, cmpD, addD, subD, modD, lenD, GF.intD, listD, tupleD, isiD, isiB, ixD, eqD, neD, inLD, notInLD, isND, notND, isNon, negD, revD, slD, max2D, min2D, absD, retS, wipeR, isIntB]
theorem whole_ok {k : Nat} {d : D} {lo hi : Int} {μ : Mu} (h : dat k d = true) : f__law_whole [.d d, .d (.int lo), .d (.int hi)] μ = .ok (.d (.bl (isIntB d lo hi))) μ := is_int_ok h
def flipB (d : D) : Bool := match d with
  | .tup [.str a, x] => if a = "top" then isIntB x 1 6 else (decide (a = "but") && isIntB x 0 6)
  | _ => false
theorem so_top : SeqAt.shaped (toPy (.str "top")) = true := by decide +kernel
theorem so_but : SeqAt.shaped (toPy (.str "but")) = true := by decide +kernel
theorem flip_b_ok {k : Nat} {d : D} {μ : Mu} (h : dat k d = true) (hk : k ≤ 64) : f_is_right_flip [.d d] μ = .ok (.d (.bl (flipB d))) μ := by
  unfold f_is_right_flip fnD d_is_right_flip
  have er : rho0 1 [S.d d] = [some (.d d)] := rfl
  rw [er]
  cases d with
  | scr _ => simp [dat] at h
  | fn _ => simp [dat] at h
  | ty _ => simp [dat] at h
  | tup l =>
    cases k with
    | zero => simp [dat] at h
    | succ k =>
      have h : datA k l = true := by simpa [dat] using h
      match l, h with
      | [], _ => simp [sSeq, sIf, sNil, sSet, sRet, sRetN, sExpr, sPar, sAsg, sSub, sApp, putCell, bT, bNot, bAnd, bOr, eOp, eV, eC, eIf, eAnd, eOr, eNot, eUn, eBi, eCall, eCall0, eTup, eLst, eCell, eListC, eSl, eChain, eLc, aCons, aNil, oNone, oSome, asI, asB, op1, op2, op3, opA, opLC, viewA, view, allD, mkTup, mkLst, mkCell, mkL, Out.bind, toS, toSB, toSA, toSI, iSeq, seqOf, iRange1, iRange2, rng1, rng2, cmpD, addD, subD, modD, lenD, GF.intD, listD, tupleD, isiD, isiB, ixD, eqD, neD, inLD, notInLD, isND, notND, isNon, negD, revD, slD, max2D, min2D, absD, retS, wipeR, flipB, eqv_int, shaped_int]
      | [a], _ => simp [sSeq, sIf, sNil, sSet, sRet, sRetN, sExpr, sPar, sAsg, sSub, sApp, putCell, bT, bNot, bAnd, bOr, eOp, eV, eC, eIf, eAnd, eOr, eNot, eUn, eBi, eCall, eCall0, eTup, eLst, eCell, eListC, eSl, eChain, eLc, aCons, aNil, oNone, oSome, asI, asB, op1, op2, op3, opA, opLC, viewA, view, allD, mkTup, mkLst, mkCell, mkL, Out.bind, toS, toSB, toSA, toSI, iSeq, seqOf, iRange1, iRange2, rng1, rng2, cmpD, addD, subD, modD, lenD, GF.intD, listD, tupleD, isiD, isiB, ixD, eqD, neD, inLD, notInLD, isND, notND, isNon, negD, revD, slD, max2D, min2D, absD, retS, wipeR, flipB, eqv_int, shaped_int]
      | a :: b :: c :: r, _ =>
        have : ¬ ((r.length : Int) + 1 + 1 + 1 = 2) := by omega
        simp [sSeq, sIf, sNil, sSet, sRet, sRetN, sExpr, sPar, sAsg, sSub, sApp, putCell, bT, bNot, bAnd, bOr, eOp, eV, eC, eIf, eAnd, eOr, eNot, eUn, eBi, eCall, eCall0, eTup, eLst, eCell, eListC, eSl, eChain, eLc, aCons, aNil, oNone, oSome, asI, asB, op1, op2, op3, opA, opLC, viewA, view, allD, mkTup, mkLst, mkCell, mkL, Out.bind, toS, toSB, toSA, toSI, iSeq, seqOf, iRange1, iRange2, rng1, rng2, cmpD, addD, subD, modD, lenD, GF.intD, listD, tupleD, isiD, isiB, ixD, eqD, neD, inLD, notInLD, isND, notND, isNon, negD, revD, slD, max2D, min2D, absD, retS, wipeR, flipB, eqv_int, shaped_int, this]
      | [a, b], h =>
        simp [datA] at h
        have i0 : atI [a, b] 0 = some a := by simp [atI, ixN]
        have i1 : atI [a, b] 1 = some b := by simp [atI, ixN]
        cases a with
        | str s =>
          have hs : SeqAt.shaped (toPy (.str s)) = true := shaped_of (k := k) h.1 (by omega)
          have i1' := @is_int_ok k b 1 6 μ h.2
          have i0' := @is_int_ok k b 0 6 μ h.2
          by_cases c1 : s = "top"
          · subst c1
            simp [sSeq, sIf, sNil, sSet, sRet, sRetN, sExpr, sPar, sAsg, sSub, sApp, putCell, bT, bNot, bAnd, bOr, eOp, eV, eC, eIf, eAnd, eOr, eNot, eUn, eBi, eCall, eCall0, eTup, eLst, eCell, eListC, eSl, eChain, eLc, aCons, aNil, oNone, oSome, asI, asB, op1, op2, op3, opA, opLC, viewA, view, allD, mkTup, mkLst, mkCell, mkL, Out.bind, toS, toSB, toSA, toSI, iSeq, seqOf, iRange1, iRange2, rng1, rng2, cmpD, addD, subD, modD, lenD, GF.intD, listD, tupleD, isiD, isiB, ixD, eqD, neD, inLD, notInLD, isND, notND, isNon, negD, revD, slD, max2D, min2D, absD, retS, wipeR, flipB, eqv_int, shaped_int, i0, i1, so_top, eqv_str, i1']
          · by_cases c2 : s = "but"
            · subst c2
              simp [sSeq, sIf, sNil, sSet, sRet, sRetN, sExpr, sPar, sAsg, sSub, sApp, putCell, bT, bNot, bAnd, bOr, eOp, eV, eC, eIf, eAnd, eOr, eNot, eUn, eBi, eCall, eCall0, eTup, eLst, eCell, eListC, eSl, eChain, eLc, aCons, aNil, oNone, oSome, asI, asB, op1, op2, op3, opA, opLC, viewA, view, allD, mkTup, mkLst, mkCell, mkL, Out.bind, toS, toSB, toSA, toSI, iSeq, seqOf, iRange1, iRange2, rng1, rng2, cmpD, addD, subD, modD, lenD, GF.intD, listD, tupleD, isiD, isiB, ixD, eqD, neD, inLD, notInLD, isND, notND, isNon, negD, revD, slD, max2D, min2D, absD, retS, wipeR, flipB, eqv_int, shaped_int, i0, i1, so_top, so_but, eqv_str, i0', c1]
            · simp [sSeq, sIf, sNil, sSet, sRet, sRetN, sExpr, sPar, sAsg, sSub, sApp, putCell, bT, bNot, bAnd, bOr, eOp, eV, eC, eIf, eAnd, eOr, eNot, eUn, eBi, eCall, eCall0, eTup, eLst, eCell, eListC, eSl, eChain, eLc, aCons, aNil, oNone, oSome, asI, asB, op1, op2, op3, opA, opLC, viewA, view, allD, mkTup, mkLst, mkCell, mkL, Out.bind, toS, toSB, toSA, toSI, iSeq, seqOf, iRange1, iRange2, rng1, rng2, cmpD, addD, subD, modD, lenD, GF.intD, listD, tupleD, isiD, isiB, ixD, eqD, neD, inLD, notInLD, isND, notND, isNon, negD, revD, slD, max2D, min2D, absD, retS, wipeR, flipB, eqv_int, shaped_int, i0, i1, so_top, so_but, hs, eqv_str, c1, c2]
        | scr _ => simp [dat] at h
        | fn _ => simp [dat] at h
        | ty _ => simp [dat] at h
        | _ => simp [sSeq, sIf, sNil, sSet, sRet, sRetN, sExpr, sPar, sAsg, sSub, sApp, putCell, bT, bNot, bAnd, bOr, eOp, eV, eC, eIf, eAnd, eOr, eNot, eUn, eBi, eCall, eCall0, eTup, eLst, eCell, eListC, eSl, eChain, eLc, aCons, aNil, oNone, oSome, asI, asB, op1, op2, op3, opA, opLC, viewA, view, allD, mkTup, mkLst, mkCell, mkL, Out.bind, toS, toSB, toSA, toSI, iSeq, seqOf, iRange1, iRange2, rng1, rng2, cmpD, addD, subD, modD, lenD, GF.intD, listD, tupleD, isiD, isiB, ixD, eqD, neD, inLD, notInLD, isND, notND, isNon, negD, revD, slD, max2D, min2D, absD, retS, wipeR, flipB, eqv_int, shaped_int, i0, i1]
  | _ => simp [sSeq, sIf, sNil, sSet, sRet, sRetN, sExpr, sPar, sAsg, sSub, sApp, putCell, bT, bNot, bAnd, bOr, eOp, eV, eC, eIf, eAnd, eOr, eNot, eUn, eBi, eCall, eCall0, eTup, eLst, eCell, eListC, eSl, eChain, eLc, aCons, aNil, oNone, oSome, asI, asB, op1, op2, op3, opA, opLC, viewA, view, allD, mkTup, mkLst, mkCell, mkL, Out.bind, toS, toSB, toSA, toSI, iSeq, seqOf, iRange1, iRange2, rng1, rng2, cmpD, addD, subD, modD, lenD, GF.intD, listD, tupleD, isiD, isiB, ixD, eqD, neD, inLD, notInLD, isND, notND, isNon, negD, revD, slD, max2D, min2D, absD, retS, wipeR, flipB]
theorem good_flip_ok {k : Nat} {d : D} {μ : Mu} (h : dat k d = true) (hk : k ≤ 60) : f__law_good_flip [.d d] μ = .ok (.d (.bl (flipB d))) μ := by
  unfold f__law_good_flip fnD d__law_good_flip
  have er : rho0 1 [S.d d] = [some (.d d)] := rfl
  rw [er]
  cases d with
  | scr _ => simp [dat] at h
  | fn _ => simp [dat] at h
  | ty _ => simp [dat] at h
  | tup l =>
    cases k with
    | zero => simp [dat] at h
    | succ k =>
      have h : datA k l = true := by simpa [dat] using h
      match l, h with
      | [], _ => simp [sSeq, sIf, sNil, sSet, sRet, sRetN, sExpr, sPar, sAsg, sSub, sApp, putCell, bT, bNot, bAnd, bOr, eOp, eV, eC, eIf, eAnd, eOr, eNot, eUn, eBi, eCall, eCall0, eTup, eLst, eCell, eListC, eSl, eChain, eLc, aCons, aNil, oNone, oSome, asI, asB, op1, op2, op3, opA, opLC, viewA, view, allD, mkTup, mkLst, mkCell, mkL, Out.bind, toS, toSB, toSA, toSI, iSeq, seqOf, iRange1, iRange2, rng1, rng2, cmpD, addD, subD, modD, lenD, GF.intD, listD, tupleD, isiD, isiB, ixD, eqD, neD, inLD, notInLD, isND, notND, isNon, negD, revD, slD, max2D, min2D, absD, retS, wipeR, flipB, eqv_int, shaped_int]
      | [a], _ => simp [sSeq, sIf, sNil, sSet, sRet, sRetN, sExpr, sPar, sAsg, sSub, sApp, putCell, bT, bNot, bAnd, bOr, eOp, eV, eC, eIf, eAnd, eOr, eNot, eUn, eBi, eCall, eCall0, eTup, eLst, eCell, eListC, eSl, eChain, eLc, aCons, aNil, oNone, oSome, asI, asB, op1, op2, op3, opA, opLC, viewA, view, allD, mkTup, mkLst, mkCell, mkL, Out.bind, toS, toSB, toSA, toSI, iSeq, seqOf, iRange1, iRange2, rng1, rng2, cmpD, addD, subD, modD, lenD, GF.intD, listD, tupleD, isiD, isiB, ixD, eqD, neD, inLD, notInLD, isND, notND, isNon, negD, revD, slD, max2D, min2D, absD, retS, wipeR, flipB, eqv_int, shaped_int]
      | a :: b :: c :: r, _ =>
        have : ¬ ((r.length : Int) + 1 + 1 + 1 = 2) := by omega
        simp [sSeq, sIf, sNil, sSet, sRet, sRetN, sExpr, sPar, sAsg, sSub, sApp, putCell, bT, bNot, bAnd, bOr, eOp, eV, eC, eIf, eAnd, eOr, eNot, eUn, eBi, eCall, eCall0, eTup, eLst, eCell, eListC, eSl, eChain, eLc, aCons, aNil, oNone, oSome, asI, asB, op1, op2, op3, opA, opLC, viewA, view, allD, mkTup, mkLst, mkCell, mkL, Out.bind, toS, toSB, toSA, toSI, iSeq, seqOf, iRange1, iRange2, rng1, rng2, cmpD, addD, subD, modD, lenD, GF.intD, listD, tupleD, isiD, isiB, ixD, eqD, neD, inLD, notInLD, isND, notND, isNon, negD, revD, slD, max2D, min2D, absD, retS, wipeR, flipB, eqv_int, shaped_int, this]
      | [a, b], h =>
        simp [datA] at h
        have i0 : atI [a, b] 0 = some a := by simp [atI, ixN]
        have i1 : atI [a, b] 1 = some b := by simp [atI, ixN]
        have so2 : SeqAt.shaped (toPy (.lst [.str "top", .str "but"])) = true := by decide +kernel
        cases a with
        | str s =>
          have hs : SeqAt.shaped (toPy (.str s)) = true := shaped_of (k := k) h.1 (by omega)
          have i1' := @whole_ok k b 1 6 μ h.2
          have i0' := @whole_ok k b 0 6 μ h.2
          by_cases c1 : s = "top"
          · subst c1
            simp [sSeq, sIf, sNil, sSet, sRet, sRetN, sExpr, sPar, sAsg, sSub, sApp, putCell, bT, bNot, bAnd, bOr, eOp, eV, eC, eIf, eAnd, eOr, eNot, eUn, eBi, eCall, eCall0, eTup, eLst, eCell, eListC, eSl, eChain, eLc, aCons, aNil, oNone, oSome, asI, asB, op1, op2, op3, opA, opLC, viewA, view, allD, mkTup, mkLst, mkCell, mkL, Out.bind, toS, toSB, toSA, toSI, iSeq, seqOf, iRange1, iRange2, rng1, rng2, cmpD, addD, subD, modD, lenD, GF.intD, listD, tupleD, isiD, isiB, ixD, eqD, neD, inLD, notInLD, isND, notND, isNon, negD, revD, slD, max2D, min2D, absD, retS, wipeR, flipB, eqv_int, shaped_int, i0, i1, so_top, eqv_str, i1', so2, cap2]
          · by_cases c2 : s = "but"
            · subst c2
              simp [sSeq, sIf, sNil, sSet, sRet, sRetN, sExpr, sPar, sAsg, sSub, sApp, putCell, bT, bNot, bAnd, bOr, eOp, eV, eC, eIf, eAnd, eOr, eNot, eUn, eBi, eCall, eCall0, eTup, eLst, eCell, eListC, eSl, eChain, eLc, aCons, aNil, oNone, oSome, asI, asB, op1, op2, op3, opA, opLC, viewA, view, allD, mkTup, mkLst, mkCell, mkL, Out.bind, toS, toSB, toSA, toSI, iSeq, seqOf, iRange1, iRange2, rng1, rng2, cmpD, addD, subD, modD, lenD, GF.intD, listD, tupleD, isiD, isiB, ixD, eqD, neD, inLD, notInLD, isND, notND, isNon, negD, revD, slD, max2D, min2D, absD, retS, wipeR, flipB, eqv_int, shaped_int, i0, i1, so_top, so_but, eqv_str, i0', c1, so2, cap2]
            · have c1' : ¬ (Str.ofString "top" = s) := fun z => c1 z.symm
              have c2' : ¬ (Str.ofString "but" = s) := fun z => c2 z.symm
              simp [sSeq, sIf, sNil, sSet, sRet, sRetN, sExpr, sPar, sAsg, sSub, sApp, putCell, bT, bNot, bAnd, bOr, eOp, eV, eC, eIf, eAnd, eOr, eNot, eUn, eBi, eCall, eCall0, eTup, eLst, eCell, eListC, eSl, eChain, eLc, aCons, aNil, oNone, oSome, asI, asB, op1, op2, op3, opA, opLC, viewA, view, allD, mkTup, mkLst, mkCell, mkL, Out.bind, toS, toSB, toSA, toSI, iSeq, seqOf, iRange1, iRange2, rng1, rng2, cmpD, addD, subD, modD, lenD, GF.intD, listD, tupleD, isiD, isiB, ixD, eqD, neD, inLD, notInLD, isND, notND, isNon, negD, revD, slD, max2D, min2D, absD, retS, wipeR, flipB, eqv_int, shaped_int, i0, i1, so_top, so_but, hs, eqv_str, c1, c2, so2, cap2, c1', c2']
        | scr _ => simp [dat] at h
        | fn _ => simp [dat] at h
        | ty _ => simp [dat] at h
        | _ => simp [sSeq, sIf, sNil, sSet, sRet, sRetN, sExpr, sPar, sAsg, sSub, sApp, putCell, bT, bNot, bAnd, bOr, eOp, eV, eC, eIf, eAnd, eOr, eNot, eUn, eBi, eCall, eCall0, eTup, eLst, eCell, eListC, eSl, eChain, eLc, aCons, aNil, oNone, oSome, asI, asB, op1, op2, op3, opA, opLC, viewA, view, allD, mkTup, mkLst, mkCell, mkL, Out.bind, toS, toSB, toSA, toSI, iSeq, seqOf, iRange1, iRange2, rng1, rng2, cmpD, addD, subD, modD, lenD, GF.intD, listD, tupleD, isiD, isiB, ixD, eqD, neD, inLD, notInLD, isND, notND, isNon, negD, revD, slD, max2D, min2D, absD, retS, wipeR, flipB, eqv_int, shaped_int, i0, i1]
  | _ => simp [sSeq, sIf, sNil, sSet, sRet, sRetN, sExpr, sPar, sAsg, sSub, sApp, putCell, bT, bNot, bAnd, bOr, eOp, eV, eC, eIf, eAnd, eOr, eNot, eUn, eBi, eCall, eCall0, eTup, eLst, eCell, eListC, eSl, eChain, eLc, aCons, aNil, oNone, oSome, asI, asB, op1, op2, op3, opA, opLC, viewA, view, allD, mkTup, mkLst, mkCell, mkL, Out.bind, toS, toSB, toSA, toSI, iSeq, seqOf, iRange1, iRange2, rng1, rng2, cmpD, addD, subD, modD, lenD, GF.intD, listD, tupleD, isiD, isiB, ixD, eqD, neD, inLD, notInLD, isND, notND, isNon, negD, revD, slD, max2D, min2D, absD, retS, wipeR, flipB]
def scriptB (d : D) : Bool := match d with
  | .tup l => decide (l.length ≤ 8) && l.all flipB
  | _ => false
theorem are_flips_ok {k : Nat} {d : D} {μ : Mu} (h : dat k d = true) (hk : k ≤ 60) : f_are_flips [.d d, .d (.int 8)] μ = .ok (.d (.bl (scriptB d))) μ := by
  unfold f_are_flips fnD d_are_flips
  have er : rho0 3 [S.d d, .d (.int 8)] = [some (.d d), some (.d (.int 8)), none] := rfl
  rw [er]
  cases d with
  | scr _ => simp [dat] at h
  | fn _ => simp [dat] at h
  | ty _ => simp [dat] at h
  | tup l =>
    cases k with
    | zero => simp [dat] at h
    | succ k =>
      have h : datA k l = true := by simpa [dat] using h
      have hA := datA_all.mp h
      by_cases c : l.length ≤ 8
      · have c' : (l.length : Int) ≤ 8 := by omega
        have cc : l.length ≤ cap := by unfold cap; omega
        have e := lc_pure (fe := eCall 1 f_is_right_flip (aCons (eV 2) aNil)) (ρ := [some (.d (.tup l)), some (.d (.int 8)), none]) (i := 2) (μ := μ) (fun x => .bl (flipB x)) l (fun x hx => by
          have := @flip_b_ok k x μ (hA x hx) (by omega)
          simp [sSeq, sIf, sNil, sSet, sRet, sRetN, sExpr, sPar, sAsg, sSub, sApp, putCell, bT, bNot, bAnd, bOr, eOp, eV, eC, eIf, eAnd, eOr, eNot, eUn, eBi, eCall, eCall0, eTup, eLst, eCell, eListC, eSl, eChain, eLc, aCons, aNil, oNone, oSome, asI, asB, op1, op2, op3, opA, opLC, viewA, view, allD, mkTup, mkLst, mkCell, mkL, Out.bind, toS, toSB, toSA, toSI, iSeq, seqOf, iRange1, iRange2, rng1, rng2, cmpD, addD, subD, modD, lenD, GF.intD, listD, tupleD, isiD, isiB, ixD, eqD, neD, inLD, notInLD, isND, notND, isNon, negD, revD, slD, max2D, min2D, absD, retS, wipeR, this])
        simp [sSeq, sIf, sNil, sSet, sRet, sRetN, sExpr, sPar, sAsg, sSub, sApp, putCell, bT, bNot, bAnd, bOr, eOp, eV, eC, eIf, eAnd, eOr, eNot, eUn, eBi, eCall, eCall0, eTup, eLst, eCell, eListC, eSl, eChain, eLc, aCons, aNil, oNone, oSome, asI, asB, op1, op2, op3, opA, opLC, viewA, view, allD, mkTup, mkLst, mkCell, mkL, Out.bind, toS, toSB, toSA, toSI, iSeq, seqOf, iRange1, iRange2, rng1, rng2, cmpD, addD, subD, modD, lenD, GF.intD, listD, tupleD, isiD, isiB, ixD, eqD, neD, inLD, notInLD, isND, notND, isNon, negD, revD, slD, max2D, min2D, absD, retS, wipeR, c', cc, allOfD, scriptB, c] at e ⊢
        rw [e]
        simp [viewA, view, allBl_map, retS]
      · have c' : ¬ (l.length : Int) ≤ 8 := by omega
        simp [sSeq, sIf, sNil, sSet, sRet, sRetN, sExpr, sPar, sAsg, sSub, sApp, putCell, bT, bNot, bAnd, bOr, eOp, eV, eC, eIf, eAnd, eOr, eNot, eUn, eBi, eCall, eCall0, eTup, eLst, eCell, eListC, eSl, eChain, eLc, aCons, aNil, oNone, oSome, asI, asB, op1, op2, op3, opA, opLC, viewA, view, allD, mkTup, mkLst, mkCell, mkL, Out.bind, toS, toSB, toSA, toSI, iSeq, seqOf, iRange1, iRange2, rng1, rng2, cmpD, addD, subD, modD, lenD, GF.intD, listD, tupleD, isiD, isiB, ixD, eqD, neD, inLD, notInLD, isND, notND, isNon, negD, revD, slD, max2D, min2D, absD, retS, wipeR, c', scriptB, c]
  | _ => simp [sSeq, sIf, sNil, sSet, sRet, sRetN, sExpr, sPar, sAsg, sSub, sApp, putCell, bT, bNot, bAnd, bOr, eOp, eV, eC, eIf, eAnd, eOr, eNot, eUn, eBi, eCall, eCall0, eTup, eLst, eCell, eListC, eSl, eChain, eLc, aCons, aNil, oNone, oSome, asI, asB, op1, op2, op3, opA, opLC, viewA, view, allD, mkTup, mkLst, mkCell, mkL, Out.bind, toS, toSB, toSA, toSI, iSeq, seqOf, iRange1, iRange2, rng1, rng2, cmpD, addD, subD, modD, lenD, GF.intD, listD, tupleD, isiD, isiB, ixD, eqD, neD, inLD, notInLD, isND, notND, isNon, negD, revD, slD, max2D, min2D, absD, retS, wipeR, scriptB]
theorem is_script_ok {k : Nat} {d : D} {μ : Mu} (h : dat k d = true) (hk : k ≤ 60) : f_is_script [.d d] μ = .ok (.d (.bl (scriptB d))) μ := by
  unfold f_is_script fnD d_is_script
  have er : rho0 1 [S.d d] = [some (.d d)] := rfl
  rw [er]
  have e : f_is_right_script [.d d] μ = .ok (.d (.bl (scriptB d))) μ := by
    unfold f_is_right_script fnD d_is_right_script
    rw [er]
    have := are_flips_ok (μ := μ) h hk
    simp [sSeq, sIf, sNil, sSet, sRet, sRetN, sExpr, sPar, sAsg, sSub, sApp, putCell, bT, bNot, bAnd, bOr, eOp, eV, eC, eIf, eAnd, eOr, eNot, eUn, eBi, eCall, eCall0, eTup, eLst, eCell, eListC, eSl, eChain, eLc, aCons, aNil, oNone, oSome, asI, asB, op1, op2, op3, opA, opLC, viewA, view, allD, mkTup, mkLst, mkCell, mkL, Out.bind, toS, toSB, toSA, toSI, iSeq, seqOf, iRange1, iRange2, rng1, rng2, cmpD, addD, subD, modD, lenD, GF.intD, listD, tupleD, isiD, isiB, ixD, eqD, neD, inLD, notInLD, isND, notND, isNon, negD, revD, slD, max2D, min2D, absD, retS, wipeR, this]
  simp [sSeq, sIf, sNil, sSet, sRet, sRetN, sExpr, sPar, sAsg, sSub, sApp, putCell, bT, bNot, bAnd, bOr, eOp, eV, eC, eIf, eAnd, eOr, eNot, eUn, eBi, eCall, eCall0, eTup, eLst, eCell, eListC, eSl, eChain, eLc, aCons, aNil, oNone, oSome, asI, asB, op1, op2, op3, opA, opLC, viewA, view, allD, mkTup, mkLst, mkCell, mkL, Out.bind, toS, toSB, toSA, toSI, iSeq, seqOf, iRange1, iRange2, rng1, rng2, cmpD, addD, subD, modD, lenD, GF.intD, listD, tupleD, isiD, isiB, ixD, eqD, neD, inLD, notInLD, isND, notND, isNon, negD, revD, slD, max2D, min2D, absD, retS, wipeR, e]
theorem is_flip_ok {k : Nat} {d : D} {μ : Mu} (h : dat k d = true) (hk : k ≤ 60) : f_is_flip [.d d] μ = .ok (.d (.bl (flipB d))) μ := by
  unfold f_is_flip fnD d_is_flip
  have er : rho0 1 [S.d d] = [some (.d d)] := rfl
  rw [er]
  have := flip_b_ok (μ := μ) h (by omega)
  simp [sSeq, sIf, sNil, sSet, sRet, sRetN, sExpr, sPar, sAsg, sSub, sApp, putCell, bT, bNot, bAnd, bOr, eOp, eV, eC, eIf, eAnd, eOr, eNot, eUn, eBi, eCall, eCall0, eTup, eLst, eCell, eListC, eSl, eChain, eLc, aCons, aNil, oNone, oSome, asI, asB, op1, op2, op3, opA, opLC, viewA, view, allD, mkTup, mkLst, mkCell, mkL, Out.bind, toS, toSB, toSA, toSI, iSeq, seqOf, iRange1, iRange2, rng1, rng2, cmpD, addD, subD, modD, lenD, GF.intD, listD, tupleD, isiD, isiB, ixD, eqD, neD, inLD, notInLD, isND, notND, isNon, negD, revD, slD, max2D, min2D, absD, retS, wipeR, this]
theorem is_bool_ok {b c : Bool} {μ : Mu} : f__law_is_bool [.d (.bl b), .d (.bl c)] μ = .ok (.d (.bl (decide (b = c)))) μ := by
  unfold f__law_is_bool fnD d__law_is_bool
  have er : rho0 2 [S.d (.bl b), .d (.bl c)] = [some (.d (.bl b)), some (.d (.bl c))] := rfl
  rw [er]
  simp [sSeq, sIf, sNil, sSet, sRet, sRetN, sExpr, sPar, sAsg, sSub, sApp, putCell, bT, bNot, bAnd, bOr, eOp, eV, eC, eIf, eAnd, eOr, eNot, eUn, eBi, eCall, eCall0, eTup, eLst, eCell, eListC, eSl, eChain, eLc, aCons, aNil, oNone, oSome, asI, asB, op1, op2, op3, opA, opLC, viewA, view, allD, mkTup, mkLst, mkCell, mkL, Out.bind, toS, toSB, toSA, toSI, iSeq, seqOf, iRange1, iRange2, rng1, rng2, cmpD, addD, subD, modD, lenD, GF.intD, listD, tupleD, isiD, isiB, ixD, eqD, neD, inLD, notInLD, isND, notND, isNon, negD, revD, slD, max2D, min2D, absD, retS, wipeR, shaped_bl, eqv_bl]
theorem right_ok {k : Nat} {d : D} {μ : Mu} (h : dat k d = true) (hk : k ≤ 50) : f__law_right [.d d] μ = .ok (.d (.bl true)) μ := by
  unfold f__law_right fnD d__law_right
  have er : rho0 3 [S.d d] = [some (.d d), none, none] := rfl
  rw [er]
  have e1 := is_script_ok (μ := μ) h (by omega)
  have e2 := is_flip_ok (μ := μ) h (by omega)
  have e3 := good_flip_ok (μ := μ) h (by omega)
  have e4 : f__law_is_bool [.d (.bl (flipB d)), .d (.bl (flipB d))] μ = .ok (.d (.bl true)) μ := by rw [is_bool_ok]; simp
  have e5 : ∀ b c : Bool, b = c → f__law_is_bool [.d (.bl b), .d (.bl c)] μ = .ok (.d (.bl true)) μ := fun b c z => by rw [is_bool_ok, z]; simp
  cases d with
  | scr _ => simp [dat] at h
  | fn _ => simp [dat] at h
  | ty _ => simp [dat] at h
  | tup l =>
    cases k with
    | zero => simp [dat] at h
    | succ k =>
      have hA := datA_all.mp (show datA k l = true by simpa [dat] using h)
      by_cases c : l.length < 9
      · have c' : (l.length : Int) < 9 := by omega
        have cc : l.length ≤ cap := by unfold cap; omega
        have e := lc_filter (ft := bNot (bT (eCall 1 f__law_good_flip (aCons (eV 2) aNil)))) (fe := eC (.int 1)) (ρ := [some (.d (.tup l)), some (.d (.bl true)), none]) (i := 2) (μ := μ) (fun x => !flipB x) (fun _ => .int 1) l (fun x hx => by
          have := @good_flip_ok k x μ (hA x hx) (by omega)
          simp [sSeq, sIf, sNil, sSet, sRet, sRetN, sExpr, sPar, sAsg, sSub, sApp, putCell, bT, bNot, bAnd, bOr, eOp, eV, eC, eIf, eAnd, eOr, eNot, eUn, eBi, eCall, eCall0, eTup, eLst, eCell, eListC, eSl, eChain, eLc, aCons, aNil, oNone, oSome, asI, asB, op1, op2, op3, opA, opLC, viewA, view, allD, mkTup, mkLst, mkCell, mkL, Out.bind, toS, toSB, toSA, toSI, iSeq, seqOf, iRange1, iRange2, rng1, rng2, cmpD, addD, subD, modD, lenD, GF.intD, listD, tupleD, isiD, isiB, ixD, eqD, neD, inLD, notInLD, isND, notND, isNon, negD, revD, slD, max2D, min2D, absD, retS, wipeR, this]) (fun x _ _ => by simp [sSeq, sIf, sNil, sSet, sRet, sRetN, sExpr, sPar, sAsg, sSub, sApp, putCell, bT, bNot, bAnd, bOr, eOp, eV, eC, eIf, eAnd, eOr, eNot, eUn, eBi, eCall, eCall0, eTup, eLst, eCell, eListC, eSl, eChain, eLc, aCons, aNil, oNone, oSome, asI, asB, op1, op2, op3, opA, opLC, viewA, view, allD, mkTup, mkLst, mkCell, mkL, Out.bind, toS, toSB, toSA, toSI, iSeq, seqOf, iRange1, iRange2, rng1, rng2, cmpD, addD, subD, modD, lenD, GF.intD, listD, tupleD, isiD, isiB, ixD, eqD, neD, inLD, notInLD, isND, notND, isNon, negD, revD, slD, max2D, min2D, absD, retS, wipeR])
        have hd : dat 1 (.lst (List.map (fun _ => D.int 1) (l.filter fun x => !flipB x))) = true := by
          rw [dat, datA_all]
          intro d hd
          obtain ⟨_, _, rfl⟩ := List.mem_map.mp hd
          simp [dat]
        have hs : SeqAt.shaped (toPy (.lst (List.map (fun _ => D.int 1) (l.filter fun x => !flipB x)))) = true := shaped_of hd (by decide)
        have hs0 : SeqAt.shaped (toPy (.lst [])) = true := by decide +kernel
        have hq : eqvD (.lst (List.map (fun _ => D.int 1) (l.filter fun x => !flipB x))) (.lst []) = scriptB (.tup l) := by
          have c8 : decide (l.length ≤ 8) = true := decide_eq_true (by omega)
          show _ = (decide (l.length ≤ 8) && l.all flipB)
          rw [c8, Bool.true_and]
          cases hf : l.filter (fun x => !flipB x) with
          | nil =>
            have : l.all flipB = true := by
              rw [List.all_eq_true]
              intro x hx
              cases hb : flipB x with
              | true => rfl
              | false =>
                have : x ∈ l.filter (fun x => !flipB x) := List.mem_filter.mpr ⟨hx, by simp [hb]⟩
                rw [hf] at this; cases this
            rw [this]
            decide +kernel
          | cons a r =>
            have ha : a ∈ l.filter (fun x => !flipB x) := by rw [hf]; exact List.mem_cons_self
            obtain ⟨h1, h2⟩ := List.mem_filter.mp ha
            have : l.all flipB = false := by
              rw [List.all_eq_false]
              exact ⟨a, h1, by simpa using h2⟩
            rw [this]
            simp [eqvD, toPy, toPyA, PyData.eqv, PyData.eqvAll]
        simp [sSeq, sIf, sNil, sSet, sRet, sRetN, sExpr, sPar, sAsg, sSub, sApp, putCell, bT, bNot, bAnd, bOr, eOp, eV, eC, eIf, eAnd, eOr, eNot, eUn, eBi, eCall, eCall0, eTup, eLst, eCell, eListC, eSl, eChain, eLc, aCons, aNil, oNone, oSome, asI, asB, op1, op2, op3, opA, opLC, viewA, view, allD, mkTup, mkLst, mkCell, mkL, Out.bind, toS, toSB, toSA, toSI, iSeq, seqOf, iRange1, iRange2, rng1, rng2, cmpD, addD, subD, modD, lenD, GF.intD, listD, tupleD, isiD, isiB, ixD, eqD, neD, inLD, notInLD, isND, notND, isNon, negD, revD, slD, max2D, min2D, absD, retS, wipeR, c', cc] at e ⊢
        rw [e]
        simp [sSeq, sIf, sNil, sSet, sRet, sRetN, sExpr, sPar, sAsg, sSub, sApp, putCell, bT, bNot, bAnd, bOr, eOp, eV, eC, eIf, eAnd, eOr, eNot, eUn, eBi, eCall, eCall0, eTup, eLst, eCell, eListC, eSl, eChain, eLc, aCons, aNil, oNone, oSome, asI, asB, op1, op2, op3, opA, opLC, viewA, view, allD, mkTup, mkLst, mkCell, mkL, Out.bind, toS, toSB, toSA, toSI, iSeq, seqOf, iRange1, iRange2, rng1, rng2, cmpD, addD, subD, modD, lenD, GF.intD, listD, tupleD, isiD, isiB, ixD, eqD, neD, inLD, notInLD, isND, notND, isNon, negD, revD, slD, max2D, min2D, absD, retS, wipeR, cap, hs, hs0, hq, e1, e2, e3, e4, e5]
      · have c' : ¬ (l.length : Int) < 9 := by omega
        have : scriptB (.tup l) = false := by
          show (decide (l.length ≤ 8) && l.all flipB) = false
          rw [decide_eq_false (by omega)]; rfl
        simp [sSeq, sIf, sNil, sSet, sRet, sRetN, sExpr, sPar, sAsg, sSub, sApp, putCell, bT, bNot, bAnd, bOr, eOp, eV, eC, eIf, eAnd, eOr, eNot, eUn, eBi, eCall, eCall0, eTup, eLst, eCell, eListC, eSl, eChain, eLc, aCons, aNil, oNone, oSome, asI, asB, op1, op2, op3, opA, opLC, viewA, view, allD, mkTup, mkLst, mkCell, mkL, Out.bind, toS, toSB, toSA, toSI, iSeq, seqOf, iRange1, iRange2, rng1, rng2, cmpD, addD, subD, modD, lenD, GF.intD, listD, tupleD, isiD, isiB, ixD, eqD, neD, inLD, notInLD, isND, notND, isNon, negD, revD, slD, max2D, min2D, absD, retS, wipeR, c', e1, e2, e3, e4, e5, this]
  | _ =>
    simp [sSeq, sIf, sNil, sSet, sRet, sRetN, sExpr, sPar, sAsg, sSub, sApp, putCell, bT, bNot, bAnd, bOr, eOp, eV, eC, eIf, eAnd, eOr, eNot, eUn, eBi, eCall, eCall0, eTup, eLst, eCell, eListC, eSl, eChain, eLc, aCons, aNil, oNone, oSome, asI, asB, op1, op2, op3, opA, opLC, viewA, view, allD, mkTup, mkLst, mkCell, mkL, Out.bind, toS, toSB, toSA, toSI, iSeq, seqOf, iRange1, iRange2, rng1, rng2, cmpD, addD, subD, modD, lenD, GF.intD, listD, tupleD, isiD, isiB, ixD, eqD, neD, inLD, notInLD, isND, notND, isNon, negD, revD, slD, max2D, min2D, absD, retS, wipeR, e1, e2, e3, e4, e5, scriptB]
/-! ### what is drawn -/
def simples : List D := [.non, .bl true, .bl false, .int 0, .int 1, .int 6, .int 7, .int (-3), .str "", .str "top", .str "but0", .tup [], .lst [], .tup [.int 0, .int 1], .tup [.str "top", .int 2], .tup [.str "but", .int 0]]
theorem simples_dat : ∀ d ∈ simples, dat 1 d = true ∧ small 5 d = true := by
  have h1 : datA 1 simples = true := by decide +kernel
  have h2 : smallA 5 simples = true := by decide +kernel
  exact fun d hd => ⟨datA_all.mp h1 d hd, smallA_all.mp h2 d hd⟩
theorem any_ok : ∀ (j : Nat) (deep : Int) {μ : Mu} {k n : Nat}, Src μ k n → deep < j → 0 ≤ deep → ∃ d μ', f__law_any_value j [.c k, .d (.int deep)] μ = .ok (.d d) μ' ∧ Stp k μ μ' ∧ dat (deep.toNat + 1) d = true ∧ small 5 d = true
  | 0, deep, μ, k, n, h, hd, h0 => by omega
  | j + 1, deep, μ, k, n, h, hd, h0 => by
    obtain ⟨way, μ1, e1, s1, w0, w1⟩ := pick_ok h (many := 8) (by decide) (by decide)
    have h1 := s1.src h
    have er : rho0 6 [S.c k, .d (.int deep)] = [some (.c k), some (.d (.int deep)), none, none, none, none] := rfl
    have cp : simples.length ≤ cap := by decide
    have cp0 : (0 : Nat) ≤ cap := by decide
    have cp16 : (16 : Nat) ≤ cap := by decide
    by_cases c : deep < 1 ∨ way < 5
    · obtain ⟨d, μ2, e2, s2, m2⟩ := chosen_ok h1 (l := simples) (by decide) (by decide)
      refine ⟨d, μ2, ?_, s1.trans s2, dat_mono (simples_dat d m2).1 (by omega), (simples_dat d m2).2⟩
      show fnD 6 (d__law_any_value (f__law_any_value j)) _ _ = _
      unfold fnD d__law_any_value
      rw [er, e_pick, e_chosen]
      have e2' := e2
      unfold simples at e2'
      by_cases c1 : deep < 1
      · simp [sSeq, sIf, sNil, sSet, sRet, sRetN, sExpr, sPar, sAsg, sSub, sApp, putCell, bT, bNot, bAnd, bOr, eOp, eV, eC, eIf, eAnd, eOr, eNot, eUn, eBi, eCall, eCall0, eTup, eLst, eCell, eListC, eSl, eChain, eLc, aCons, aNil, oNone, oSome, asI, asB, op1, op2, op3, opA, opLC, viewA, view, allD, mkTup, mkLst, mkCell, mkL, Out.bind, toS, toSB, toSA, toSI, iSeq, seqOf, iRange1, iRange2, rng1, rng2, cmpD, addD, subD, modD, lenD, GF.intD, listD, tupleD, isiD, isiB, ixD, eqD, neD, inLD, notInLD, isND, notND, isNon, negD, revD, slD, max2D, min2D, absD, retS, wipeR, cp0, cap2, cp16, e1, c1, e2', take_len (s1.trans s2).len rfl]
      · have c2 : way < 5 := by omega
        simp [sSeq, sIf, sNil, sSet, sRet, sRetN, sExpr, sPar, sAsg, sSub, sApp, putCell, bT, bNot, bAnd, bOr, eOp, eV, eC, eIf, eAnd, eOr, eNot, eUn, eBi, eCall, eCall0, eTup, eLst, eCell, eListC, eSl, eChain, eLc, aCons, aNil, oNone, oSome, asI, asB, op1, op2, op3, opA, opLC, viewA, view, allD, mkTup, mkLst, mkCell, mkL, Out.bind, toS, toSB, toSA, toSI, iSeq, seqOf, iRange1, iRange2, rng1, rng2, cmpD, addD, subD, modD, lenD, GF.intD, listD, tupleD, isiD, isiB, ixD, eqD, neD, inLD, notInLD, isND, notND, isNon, negD, revD, slD, max2D, min2D, absD, retS, wipeR, cp0, cap2, cp16, e1, c1, c2, e2', take_len (s1.trans s2).len rfl]
    · have c1 : ¬ deep < 1 := fun z => c (.inl z)
      have c2 : ¬ way < 5 := fun z => c (.inr z)
      obtain ⟨r, μ2, e2, s2, r0, r1⟩ := pick_ok h1 (many := 5) (by decide) (by decide)
      have h2 := s2.src h1
      obtain ⟨ds, μ3, e3, s3, p3, q3⟩ := lc_draw (k := k) (n := n) (fe := eCall 2 (f__law_any_value j) (aCons (eV 0) (aCons (eOp subD (eV 1) (eC (.int 1))) aNil)))
        (ρ := [some (.c k), some (.d (.int deep)), some (.d (.lst simples)), some (.d (.int way)), none, none]) (i := 5) (P := fun d => dat (deep - 1).toNat.succ d = true ∧ small 5 d = true) (fun x μ hμ => by
          obtain ⟨d, μ', e, s, p⟩ := any_ok j (deep - 1) hμ (by omega) (by omega)
          refine ⟨d, μ', ?_, s, p⟩
          simp [sSeq, sIf, sNil, sSet, sRet, sRetN, sExpr, sPar, sAsg, sSub, sApp, putCell, bT, bNot, bAnd, bOr, eOp, eV, eC, eIf, eAnd, eOr, eNot, eUn, eBi, eCall, eCall0, eTup, eLst, eCell, eListC, eSl, eChain, eLc, aCons, aNil, oNone, oSome, asI, asB, op1, op2, op3, opA, opLC, viewA, view, allD, mkTup, mkLst, mkCell, mkL, Out.bind, toS, toSB, toSA, toSI, iSeq, seqOf, iRange1, iRange2, rng1, rng2, cmpD, addD, subD, modD, lenD, GF.intD, listD, tupleD, isiD, isiB, ixD, eqD, neD, inLD, notInLD, isND, notND, isNon, negD, revD, slD, max2D, min2D, absD, retS, wipeR, e]) (upD 0 r.toNat) μ2 h2
      have hR : bigR r := by unfold bigR; omega
      have hc : r.toNat ≤ cap := by unfold cap; omega
      have hdt : datA (deep - 1).toNat.succ ds = true := datA_all.mpr fun x hx => (p3 x hx).1
      have hsm : smallA 5 ds = true := smallA_all.mpr fun x hx => (p3 x hx).2
      have hlen : ds.length ≤ 5 := by rw [q3, upD_len]; omega
      have et : deep.toNat + 1 = (deep - 1).toNat.succ + 1 := by omega
      have e3' := e3
      unfold simples at e3'
      by_cases c5 : way = 5
      · refine ⟨.lst ds, μ3, ?_, (s1.trans s2).trans s3, by rw [et, dat]; exact hdt, by simp [small, hlen, hsm]⟩
        show fnD 6 (d__law_any_value (f__law_any_value j)) _ _ = _
        unfold fnD d__law_any_value
        rw [er, e_pick, e_chosen]
        simp [sSeq, sIf, sNil, sSet, sRet, sRetN, sExpr, sPar, sAsg, sSub, sApp, putCell, bT, bNot, bAnd, bOr, eOp, eV, eC, eIf, eAnd, eOr, eNot, eUn, eBi, eCall, eCall0, eTup, eLst, eCell, eListC, eSl, eChain, eLc, aCons, aNil, oNone, oSome, asI, asB, op1, op2, op3, opA, opLC, viewA, view, allD, mkTup, mkLst, mkCell, mkL, Out.bind, toS, toSB, toSA, toSI, iSeq, seqOf, iRange1, iRange2, rng1, rng2, cmpD, addD, subD, modD, lenD, GF.intD, listD, tupleD, isiD, isiB, ixD, eqD, neD, inLD, notInLD, isND, notND, isNon, negD, revD, slD, max2D, min2D, absD, retS, wipeR, cp0, cap2, cp16, e1, c1, c2, e2, hR, upD_len, hc]
        rw [e3']
        simp [sSeq, sIf, sNil, sSet, sRet, sRetN, sExpr, sPar, sAsg, sSub, sApp, putCell, bT, bNot, bAnd, bOr, eOp, eV, eC, eIf, eAnd, eOr, eNot, eUn, eBi, eCall, eCall0, eTup, eLst, eCell, eListC, eSl, eChain, eLc, aCons, aNil, oNone, oSome, asI, asB, op1, op2, op3, opA, opLC, viewA, view, allD, mkTup, mkLst, mkCell, mkL, Out.bind, toS, toSB, toSA, toSI, iSeq, seqOf, iRange1, iRange2, rng1, rng2, cmpD, addD, subD, modD, lenD, GF.intD, listD, tupleD, isiD, isiB, ixD, eqD, neD, inLD, notInLD, isND, notND, isNon, negD, revD, slD, max2D, min2D, absD, retS, wipeR, c5, eqv_int, shaped_int, take_len ((s1.trans s2).trans s3).len rfl]
      · refine ⟨.tup ds, μ3, ?_, (s1.trans s2).trans s3, by rw [et, dat]; exact hdt, by simp [small, hlen, hsm]⟩
        show fnD 6 (d__law_any_value (f__law_any_value j)) _ _ = _
        unfold fnD d__law_any_value
        rw [er, e_pick, e_chosen]
        simp [sSeq, sIf, sNil, sSet, sRet, sRetN, sExpr, sPar, sAsg, sSub, sApp, putCell, bT, bNot, bAnd, bOr, eOp, eV, eC, eIf, eAnd, eOr, eNot, eUn, eBi, eCall, eCall0, eTup, eLst, eCell, eListC, eSl, eChain, eLc, aCons, aNil, oNone, oSome, asI, asB, op1, op2, op3, opA, opLC, viewA, view, allD, mkTup, mkLst, mkCell, mkL, Out.bind, toS, toSB, toSA, toSI, iSeq, seqOf, iRange1, iRange2, rng1, rng2, cmpD, addD, subD, modD, lenD, GF.intD, listD, tupleD, isiD, isiB, ixD, eqD, neD, inLD, notInLD, isND, notND, isNon, negD, revD, slD, max2D, min2D, absD, retS, wipeR, cp0, cap2, cp16, e1, c1, c2, e2, hR, upD_len, hc]
        rw [e3']
        simp [sSeq, sIf, sNil, sSet, sRet, sRetN, sExpr, sPar, sAsg, sSub, sApp, putCell, bT, bNot, bAnd, bOr, eOp, eV, eC, eIf, eAnd, eOr, eNot, eUn, eBi, eCall, eCall0, eTup, eLst, eCell, eListC, eSl, eChain, eLc, aCons, aNil, oNone, oSome, asI, asB, op1, op2, op3, opA, opLC, viewA, view, allD, mkTup, mkLst, mkCell, mkL, Out.bind, toS, toSB, toSA, toSI, iSeq, seqOf, iRange1, iRange2, rng1, rng2, cmpD, addD, subD, modD, lenD, GF.intD, listD, tupleD, isiD, isiB, ixD, eqD, neD, inLD, notInLD, isND, notND, isNon, negD, revD, slD, max2D, min2D, absD, retS, wipeR, c5, eqv_int, shaped_int, take_len ((s1.trans s2).trans s3).len rfl]
def nears : List D := [.non, .bl true, .int 0, .int 1, .int 2, .int 6, .int 7, .int (-1), .str "", .str "top", .str "but", .str "Top", .tup [], .tup [.str "top", .int 0], .tup [.str "but", .int 7], .tup [.str "top", .int 6]]
def nears2 : List D := [.lst [.str "top", .int 1], .tup [.str "but", .bl true], .tup [.str "but", .int 0, .int 0]]
theorem nears_dat : ∀ d ∈ nears ++ nears2, dat 1 d = true ∧ small 5 d = true := by
  have h1 : datA 1 (nears ++ nears2) = true := by decide +kernel
  have h2 : smallA 5 (nears ++ nears2) = true := by decide +kernel
  exact fun d hd => ⟨datA_all.mp h1 d hd, smallA_all.mp h2 d hd⟩
theorem variant_ok : ∀ (j : Nat) (deep : Int) (l : List D) (m N : Nat) {μ : Mu} {k n : Nat}, Src μ k n → deep < j → 0 ≤ deep → deep.toNat + 3 ≤ m → m ≤ 40 → 5 ≤ N → N ≤ 100 → datA m l = true → smallA N l = true → l.length ≤ N →
    ∃ d l' μ', f__law_variant j [.c k, .d (.tup l), .d (.int deep)] μ = .ok (.d d) μ' ∧ Stp k μ μ' ∧ (d = .tup l' ∨ d = .lst l') ∧ datA m l' = true ∧ smallA (N + 1) l' = true ∧ l'.length ≤ N + 1
  | 0, deep, l, m, N, μ, k, n, h, hd, h0, _, _, _, _, _, _, _ => by omega
  | j + 1, deep, l, m, N, μ, k, n, h, hd, h0, hm, hm2, hN, hN2, hA, hS, hL => by
    have er : rho0 8 [S.c k, .d (.tup l), .d (.int deep)] = [some (.c k), some (.d (.tup l)), some (.d (.int deep)), none, none, none, none, none] := rfl
    have hpu := h.push (.lst l)
    have kn : k ≠ μ.length := by have := h.lt; have := h.len; omega
    have sl : SeqAt.shaped (toPy (.lst l)) = true := shaped_of (k := m + 1) (by rw [dat]; exact hA) (by omega)
    have s0 : SeqAt.shaped (toPy (.lst [])) = true := by decide +kernel
    have cp0 : (0 : Nat) ≤ cap := by decide
    have cp1 : (1 : Nat) ≤ cap := by decide
    have cp16 : (16 : Nat) ≤ cap := by decide
    have cp3 : (3 : Nat) ≤ cap := by decide
    by_cases hne : l = []
    · subst hne
      obtain ⟨d, μ1, e1, s1, p1, q1⟩ := any_ok 4 1 hpu (by decide) (by decide)
      refine ⟨.tup [d], [d], μ1.take μ.length, ?_, stp_pop h s1, .inl rfl, by simp [datA, dat_mono p1 (show 2 ≤ m by omega)], by simp [smallA, small_mono (show 5 ≤ N + 1 by omega) q1], by simp⟩
      show fnD 8 (d__law_variant (f__law_variant j)) _ _ = _
      unfold fnD d__law_variant
      rw [er]
      have ev : eqvD (.lst []) (.lst []) = true := by decide +kernel
      simp [sSeq, sIf, sNil, sSet, sRet, sRetN, sExpr, sPar, sAsg, sSub, sApp, putCell, bT, bNot, bAnd, bOr, eOp, eV, eC, eIf, eAnd, eOr, eNot, eUn, eBi, eCall, eCall0, eTup, eLst, eCell, eListC, eSl, eChain, eLc, aCons, aNil, oNone, oSome, asI, asB, op1, op2, op3, opA, opLC, viewA, view, allD, mkTup, mkLst, mkCell, mkL, Out.bind, toS, toSB, toSA, toSI, iSeq, seqOf, iRange1, iRange2, rng1, rng2, cmpD, addD_int, subD, modD, lenD, GF.intD, listD, tupleD, isiD, isiB, ixD, eqD, neD, inLD, notInLD, isND, notND, isNon, negD, revD, slD, max2D, min2D, absD, retS, wipeR, s0, ev, cp0, cp1, e1]
    · have hpos : 0 < l.length := by
        cases l with
        | nil => exact absurd rfl hne
        | cons _ _ => simp
      have ev : eqvD (.lst l) (.lst []) = false := by
        cases l with
        | nil => exact absurd rfl hne
        | cons _ _ => simp [eqvD, toPy, toPyA, PyData.eqv, PyData.eqvAll]
      have hb : ((l.length : Int)).natAbs.log2 < 9000 := by
        have : ((l.length : Int)).natAbs = l.length := by omega
        rw [this]
        exact Nat.lt_of_le_of_lt (Nat.log2_le_self _) (by omega)
      obtain ⟨r, μ1, e1, s1, r0, r1⟩ := pick_ok hpu (many := l.length) (by omega) hb
      have h1 := s1.src hpu
      obtain ⟨way, μ2, e2, s2, w0, w1⟩ := pick_ok h1 (many := 9) (by decide) (by decide)
      have h2 := s2.src h1
      have s12 := s1.trans s2
      have own1 := stp_own h s1
      have own2 := stp_own h s12
      obtain ⟨d0, hd0, m0⟩ := atI_some r0 r1
      have g0 := datA_all.mp hA d0 m0
      have t0 := smallA_all.mp hS d0 m0
      have isd : isiB d0 "tuple" = some (match d0 with | .tup _ => true | _ => false) := by
        cases d0 with
        | scr _ => simp [dat] at g0
        | fn _ => simp [dat] at g0
        | ty _ => simp [dat] at g0
        | _ => rfl
      obtain ⟨rn, hrn⟩ : ∃ rn : Nat, rn = r.toNat := ⟨_, rfl⟩
      have c1 : cutL l none (some r) = l.take rn := by rw [cut_to r0, hrn]
      have c2 : cutL l (some (r + 1)) none = l.drop (rn + 1) := by rw [cut_from (by omega)]; congr 1; omega
      have c3 : cutL l none (some (r + 1)) = l.take (rn + 1) := by rw [cut_to (by omega)]; congr 1; omega
      have c4 : cutL l (some r) none = l.drop rn := by rw [cut_from r0, hrn]
      have c5 : cutL l (some r) (some (r + 2)) = (l.drop rn).take 2 := by rw [cut_mid r0 (by omega) (by omega), hrn]; congr 1; omega
      have c6 : cutL l (some (r + 2)) none = l.drop (rn + 2) := by rw [cut_from (by omega)]; congr 1; omega
      have hN1 : smallA (N + 1) l = true := smallA_mono (by omega) hS
      have mT : ∀ i, ∀ x ∈ l.take i, x ∈ l := fun i x hx => List.mem_of_mem_take hx
      have mD : ∀ i, ∀ x ∈ l.drop i, x ∈ l := fun i x hx => List.mem_of_mem_drop hx
      have hrl : rn < l.length := by omega
      have lcap : l.length + 10 ≤ cap := by unfold cap; omega
      have pop2 := stp_pop h s12
      by_cases cA : (∃ li, d0 = .tup li) ∧ 0 < deep ∧ 2 < way
      · obtain ⟨⟨li, rfl⟩, cd, cw⟩ := cA
        obtain ⟨m', rfl⟩ : ∃ m', m = m' + 1 := ⟨m - 1, by omega⟩
        rw [dat] at g0
        simp only [small, Bool.and_eq_true, decide_eq_true_eq] at t0
        obtain ⟨d, l', μ3, e3, s3, p3, q3, u3, v3⟩ := variant_ok j (deep - 1) li m' N h2 (by omega) (by omega) (by omega) (by omega) hN hN2 g0 t0.2 t0.1
        have s123 := s12.trans s3
        have own3 := stp_own h s123
        have a1 : addD (.tup (l.take rn)) (.tup [d]) = some (.tup (l.take rn ++ [d])) := addD_tup (by simp; omega)
        have a2 : addD (.tup (l.take rn ++ [d])) (.tup (l.drop (rn + 1))) = some (.tup (l.take rn ++ [d] ++ l.drop (rn + 1))) := addD_tup (by simp; omega)
        have hdd : dat (m' + 1) d = true := by rcases p3 with z | z <;> rw [z, dat] <;> exact q3
        have hds : small (N + 1) d = true := by rcases p3 with z | z <;> rw [z] <;> simp [small, u3, v3]
        refine ⟨_, l.take rn ++ [d] ++ l.drop (rn + 1), μ3.take μ.length, ?_, stp_pop h s123, .inl rfl, datA_all.mpr fun x hx => ?_, smallA_all.mpr fun x hx => ?_, by simp; omega⟩
        · show fnD 8 (d__law_variant (f__law_variant j)) _ _ = _
          unfold fnD d__law_variant
          rw [er, e_pick]
          simp [sSeq, sIf, sNil, sSet, sRet, sRetN, sExpr, sPar, sAsg, sSub, sApp, putCell, bT, bNot, bAnd, bOr, eOp, eV, eC, eIf, eAnd, eOr, eNot, eUn, eBi, eCall, eCall0, eTup, eLst, eCell, eListC, eSl, eChain, eLc, aCons, aNil, oNone, oSome, asI, asB, op1, op2, op3, opA, opLC, viewA, view, allD, mkTup, mkLst, mkCell, mkL, Out.bind, toS, toSB, toSA, toSI, iSeq, seqOf, iRange1, iRange2, rng1, rng2, cmpD, addD_int, subD, modD, lenD, GF.intD, listD, tupleD, isiD, ixD, eqD, neD, inLD, notInLD, isND, notND, isNon, negD, revD, slD, max2D, min2D, absD, retS, wipeR, s0, sl, ev, cp0, cp1, e1, e2, own1, own2, hd0, isd, cd, cw, c1, c2, e3, own3, a1, a2]
        · simp only [List.mem_append, List.mem_singleton] at hx
          rcases hx with (hx | hx) | hx
          · exact datA_all.mp hA x (mT _ x hx)
          · rw [hx]; exact hdd
          · exact datA_all.mp hA x (mD _ x hx)
        · simp only [List.mem_append, List.mem_singleton] at hx
          rcases hx with (hx | hx) | hx
          · exact smallA_all.mp hN1 x (mT _ x hx)
          · rw [hx]; exact hds
          · exact smallA_all.mp hN1 x (mD _ x hx)
      · have hT : bAnd (bT (eBi isiD (aCons (eV 6) (aCons (eC (.ty "tuple")) aNil)))) (bAnd (bT (eOp gtD (eV 2) (eC (.int 0)))) (bT (eOp gtD (eV 5) (eC (.int 2)))))
            [some (.c k), some (.d (.tup l)), some (.d (.int deep)), some (.c μ.length), some (.d (.int r)), some (.d (.int way)), some (.d d0), none] μ2 = .ok false μ2 := by
          by_cases z1 : ∃ li, d0 = .tup li
          · obtain ⟨li, rfl⟩ := z1
            by_cases z2 : 0 < deep
            · by_cases z3 : 2 < way
              · exact absurd ⟨⟨li, rfl⟩, z2, z3⟩ cA
              · simp [sSeq, sIf, sNil, sSet, sRet, sRetN, sExpr, sPar, sAsg, sSub, sApp, putCell, bT, bNot, bAnd, bOr, eOp, eV, eC, eIf, eAnd, eOr, eNot, eUn, eBi, eCall, eCall0, eTup, eLst, eCell, eListC, eSl, eChain, eLc, aCons, aNil, oNone, oSome, asI, asB, op1, op2, op3, opA, opLC, viewA, view, allD, mkTup, mkLst, mkCell, mkL, Out.bind, toS, toSB, toSA, toSI, iSeq, seqOf, iRange1, iRange2, rng1, rng2, cmpD, addD_int, subD, modD, lenD, GF.intD, listD, tupleD, isiD, isiB, ixD, eqD, neD, inLD, notInLD, isND, notND, isNon, negD, revD, slD, max2D, min2D, absD, retS, wipeR, z2, z3]
            · simp [sSeq, sIf, sNil, sSet, sRet, sRetN, sExpr, sPar, sAsg, sSub, sApp, putCell, bT, bNot, bAnd, bOr, eOp, eV, eC, eIf, eAnd, eOr, eNot, eUn, eBi, eCall, eCall0, eTup, eLst, eCell, eListC, eSl, eChain, eLc, aCons, aNil, oNone, oSome, asI, asB, op1, op2, op3, opA, opLC, viewA, view, allD, mkTup, mkLst, mkCell, mkL, Out.bind, toS, toSB, toSA, toSI, iSeq, seqOf, iRange1, iRange2, rng1, rng2, cmpD, addD_int, subD, modD, lenD, GF.intD, listD, tupleD, isiD, isiB, ixD, eqD, neD, inLD, notInLD, isND, notND, isNon, negD, revD, slD, max2D, min2D, absD, retS, wipeR, z2]
          · have : isiB d0 "tuple" = some false := by
              rw [isd]
              cases d0 with
              | tup li => exact absurd ⟨li, rfl⟩ z1
              | _ => rfl
            simp [sSeq, sIf, sNil, sSet, sRet, sRetN, sExpr, sPar, sAsg, sSub, sApp, putCell, bT, bNot, bAnd, bOr, eOp, eV, eC, eIf, eAnd, eOr, eNot, eUn, eBi, eCall, eCall0, eTup, eLst, eCell, eListC, eSl, eChain, eLc, aCons, aNil, oNone, oSome, asI, asB, op1, op2, op3, opA, opLC, viewA, view, allD, mkTup, mkLst, mkCell, mkL, Out.bind, toS, toSB, toSA, toSI, iSeq, seqOf, iRange1, iRange2, rng1, rng2, cmpD, addD_int, subD, modD, lenD, GF.intD, listD, tupleD, isiD, ixD, eqD, neD, inLD, notInLD, isND, notND, isNon, negD, revD, slD, max2D, min2D, absD, retS, wipeR, this]
        by_cases w_0 : way = 0
        · subst w_0
          have a1 : addD (.lst (l.take rn)) (.lst (l.drop (rn + 1))) = some (.lst (l.take rn ++ l.drop (rn + 1))) := addD_lst (by simp; omega)
          have mm : ∀ x ∈ l.take rn ++ l.drop (rn + 1), x ∈ l := fun x hx => (List.mem_append.mp hx).elim (mT _ x) (mD _ x)
          refine ⟨_, l.take rn ++ l.drop (rn + 1), μ2.take μ.length, ?_, pop2, .inl rfl, datA_sub hA mm, smallA_sub hN1 mm, by simp; omega⟩
          show fnD 8 (d__law_variant (f__law_variant j)) _ _ = _
          unfold fnD d__law_variant
          rw [er, e_pick]
          simp [sSeq, sIf, sNil, sSet, sRet, sRetN, sExpr, sPar, sAsg, sSub, sApp, putCell, bT, bNot, bOr, eOp, eV, eC, eIf, eAnd, eOr, eNot, eUn, eBi, eCall, eCall0, eTup, eLst, eCell, eListC, eSl, eChain, eLc, aCons, aNil, oNone, oSome, asI, asB, op1, op2, op3, opA, opLC, viewA, view, allD, mkTup, mkLst, mkCell, mkL, Out.bind, toS, toSB, toSA, toSI, iSeq, seqOf, iRange1, iRange2, rng1, rng2, cmpD, addD_int, subD, modD, lenD, GF.intD, listD, tupleD, isiD, ixD, eqD, neD, inLD, notInLD, isND, notND, isNon, negD, revD, slD, max2D, min2D, absD, retS, wipeR, s0, sl, ev, cp0, cp1, e1, e2, own1, own2, hd0, hT, c1, c2, a1, shaped_int, eqv_int]
        by_cases w_1 : way = 1
        · subst w_1
          have a1 : addD (.lst (l.take (rn + 1))) (.lst (l.drop rn)) = some (.lst (l.take (rn + 1) ++ l.drop rn)) := addD_lst (by simp; omega)
          have mm : ∀ x ∈ l.take (rn + 1) ++ l.drop rn, x ∈ l := fun x hx => (List.mem_append.mp hx).elim (mT _ x) (mD _ x)
          refine ⟨_, l.take (rn + 1) ++ l.drop rn, μ2.take μ.length, ?_, pop2, .inl rfl, datA_sub hA mm, smallA_sub hN1 mm, by simp; omega⟩
          show fnD 8 (d__law_variant (f__law_variant j)) _ _ = _
          unfold fnD d__law_variant
          rw [er, e_pick]
          simp [sSeq, sIf, sNil, sSet, sRet, sRetN, sExpr, sPar, sAsg, sSub, sApp, putCell, bT, bNot, bOr, eOp, eV, eC, eIf, eAnd, eOr, eNot, eUn, eBi, eCall, eCall0, eTup, eLst, eCell, eListC, eSl, eChain, eLc, aCons, aNil, oNone, oSome, asI, asB, op1, op2, op3, opA, opLC, viewA, view, allD, mkTup, mkLst, mkCell, mkL, Out.bind, toS, toSB, toSA, toSI, iSeq, seqOf, iRange1, iRange2, rng1, rng2, cmpD, addD_int, subD, modD, lenD, GF.intD, listD, tupleD, isiD, ixD, eqD, neD, inLD, notInLD, isND, notND, isNon, negD, revD, slD, max2D, min2D, absD, retS, wipeR, s0, sl, ev, cp0, cp1, e1, e2, own1, own2, hd0, hT, c3, c4, a1, shaped_int, eqv_int]
        by_cases w_2 : way = 2
        · subst w_2
          have a1 : addD (.lst (l.take rn)) (.lst ((l.drop rn).take 2).reverse) = some (.lst (l.take rn ++ ((l.drop rn).take 2).reverse)) := addD_lst (by simp; omega)
          have a2 : addD (.lst (l.take rn ++ ((l.drop rn).take 2).reverse)) (.lst (l.drop (rn + 2))) = some (.lst (l.take rn ++ ((l.drop rn).take 2).reverse ++ l.drop (rn + 2))) := addD_lst (by simp; omega)
          have mm : ∀ x ∈ l.take rn ++ ((l.drop rn).take 2).reverse ++ l.drop (rn + 2), x ∈ l := fun x hx => by
            simp only [List.mem_append, List.mem_reverse] at hx
            rcases hx with (hx | hx) | hx
            · exact mT _ x hx
            · exact mD _ x (List.mem_of_mem_take hx)
            · exact mD _ x hx
          refine ⟨_, l.take rn ++ ((l.drop rn).take 2).reverse ++ l.drop (rn + 2), μ2.take μ.length, ?_, pop2, .inl rfl, datA_sub hA mm, smallA_sub hN1 mm, by simp; omega⟩
          show fnD 8 (d__law_variant (f__law_variant j)) _ _ = _
          unfold fnD d__law_variant
          rw [er, e_pick]
          simp [sSeq, sIf, sNil, sSet, sRet, sRetN, sExpr, sPar, sAsg, sSub, sApp, putCell, bT, bNot, bOr, eOp, eV, eC, eIf, eAnd, eOr, eNot, eUn, eBi, eCall, eCall0, eTup, eLst, eCell, eListC, eSl, eChain, eLc, aCons, aNil, oNone, oSome, asI, asB, op1, op2, op3, opA, opLC, viewA, view, allD, mkTup, mkLst, mkCell, mkL, Out.bind, toS, toSB, toSA, toSI, iSeq, seqOf, iRange1, iRange2, rng1, rng2, cmpD, addD_int, subD, modD, lenD, GF.intD, listD, tupleD, isiD, ixD, eqD, neD, inLD, notInLD, isND, notND, isNon, negD, revD, slD, max2D, min2D, absD, retS, wipeR, s0, sl, ev, cp0, cp1, e1, e2, own1, own2, hd0, hT, c1, c5, c6, a1, a2, shaped_int, eqv_int]
        by_cases w_3 : way = 3
        · subst w_3
          have st : Stp k μ ((μ2.set μ.length .dead).take μ.length) := by
            refine stp_take (by rw [List.length_set, s12.len]; simp) (by have := h.lt; have := h.len; omega) (fun j hj hl => ?_) ?_
            · rw [List.getElem?_set_ne (by omega), s12.oth j hj, List.getElem?_append_left hl]
            · obtain ⟨a, b, e⟩ := s12.at_
              exact ⟨a, b, by rw [List.getElem?_set_ne (by omega)]; exact e⟩
          refine ⟨_, l, (μ2.set μ.length .dead).take μ.length, ?_, st, .inr rfl, hA, hN1, by omega⟩
          show fnD 8 (d__law_variant (f__law_variant j)) _ _ = _
          unfold fnD d__law_variant
          rw [er, e_pick]
          simp [sSeq, sIf, sNil, sSet, sRet, sRetN, sExpr, sPar, sAsg, sSub, sApp, putCell, bT, bNot, bOr, eOp, eV, eC, eIf, eAnd, eOr, eNot, eUn, eBi, eCall, eCall0, eTup, eLst, eCell, eListC, eSl, eChain, eLc, aCons, aNil, oNone, oSome, asI, asB, op1, op2, op3, opA, opLC, viewA, view, allD, mkTup, mkLst, mkCell, mkL, Out.bind, toS, toSB, toSA, toSI, iSeq, seqOf, iRange1, iRange2, rng1, rng2, cmpD, addD_int, subD, modD, lenD, GF.intD, listD, tupleD, isiD, ixD, eqD, neD, inLD, notInLD, isND, notND, isNon, negD, revD, slD, max2D, min2D, absD, retS, wipeR, sFrz, s0, sl, ev, cp0, cp1, e1, e2, own1, own2, hd0, hT, shaped_int, eqv_int]
        -- an item is put in
        have fin : ∀ (d : D) (μ3 : Mu), Stp k (μ ++ [.lst l]) μ3 → dat m d = true → small (N + 1) d = true →
            Stp k μ ((μ3.set μ.length (.lst (l.set rn d))).take μ.length) ∧ datA m (l.set rn d) = true ∧ smallA (N + 1) (l.set rn d) = true ∧ (l.set rn d).length ≤ N + 1 := fun d μ3 s3 q1 q2 => by
          refine ⟨stp_take (by rw [List.length_set, s3.len]; simp) (by have := h.lt; have := h.len; omega) (fun j hj hl => ?_) ?_, datA_all.mpr fun x hx => ?_, smallA_all.mpr fun x hx => ?_, by simp; omega⟩
          · rw [List.getElem?_set_ne (by omega), s3.oth j hj, List.getElem?_append_left hl]
          · obtain ⟨a, b, e⟩ := s3.at_
            exact ⟨a, b, by rw [List.getElem?_set_ne (by omega)]; exact e⟩
          · rcases List.mem_or_eq_of_mem_set hx with z | z
            · exact datA_all.mp hA x z
            · rw [z]; exact q1
          · rcases List.mem_or_eq_of_mem_set hx with z | z
            · exact smallA_all.mp hN1 x z
            · rw [z]; exact q2
        have ix : ixN l.length r = some rn := by
          unfold ixN
          rw [if_pos r0, if_pos r1, hrn]
        by_cases w_5 : way < 6
        · obtain ⟨d, μ3, e3, s3, p3, q3⟩ := any_ok 4 2 h2 (by decide) (by decide)
          have s123 := s12.trans s3
          have own3 := stp_own h s123
          have own4 := set_get (c := .lst (l.set rn d)) own3
          obtain ⟨f1, f2, f3, f4⟩ := fin d μ3 s123 (dat_mono p3 (show 3 ≤ m by omega)) (small_mono (by omega) q3)
          refine ⟨_, l.set rn d, _, ?_, f1, .inl rfl, f2, f3, f4⟩
          show fnD 8 (d__law_variant (f__law_variant j)) _ _ = _
          unfold fnD d__law_variant
          rw [er, e_pick]
          simp [sSeq, sIf, sNil, sSet, sRet, sRetN, sExpr, sPar, sAsg, sSub, sApp, putCell, bT, bNot, bOr, eOp, eV, eC, eIf, eAnd, eOr, eNot, eUn, eBi, eCall, eCall0, eTup, eLst, eCell, eListC, eSl, eChain, eLc, aCons, aNil, oNone, oSome, asI, asB, op1, op2, op3, opA, opLC, viewA, view, allD, mkTup, mkLst, mkCell, mkL, Out.bind, toS, toSB, toSA, toSI, iSeq, seqOf, iRange1, iRange2, rng1, rng2, cmpD, addD_int, subD, modD, lenD, GF.intD, listD, tupleD, isiD, ixD, eqD, neD, inLD, notInLD, isND, notND, isNon, negD, revD, slD, max2D, min2D, absD, retS, wipeR, s0, sl, ev, cp0, cp1, e1, e2, own1, own2, hd0, hT, shaped_int, eqv_int, w_0, w_1, w_2, w_3, w_5, e3, own3, ix, own4]
        · obtain ⟨d, μ3, e3, s3, m3⟩ := chosen_ok h2 (l := nears ++ nears2) (by decide) (by decide)
          have s123 := s12.trans s3
          have own3 := stp_own h s123
          have own4 := set_get (c := .lst (l.set rn d)) own3
          obtain ⟨f1, f2, f3, f4⟩ := fin d μ3 s123 (dat_mono (nears_dat d m3).1 (show 1 ≤ m by omega)) (small_mono (by omega) (nears_dat d m3).2)
          have a1 : addD (.lst nears) (.lst nears2) = some (.lst (nears ++ nears2)) := addD_lst (by decide)
          refine ⟨_, l.set rn d, _, ?_, f1, .inl rfl, f2, f3, f4⟩
          show fnD 8 (d__law_variant (f__law_variant j)) _ _ = _
          unfold fnD d__law_variant
          rw [er, e_pick, e_chosen]
          unfold nears nears2 at a1 e3
          simp [sSeq, sIf, sNil, sSet, sRet, sRetN, sExpr, sPar, sAsg, sSub, sApp, putCell, bT, bNot, bOr, eOp, eV, eC, eIf, eAnd, eOr, eNot, eUn, eBi, eCall, eCall0, eTup, eLst, eCell, eListC, eSl, eChain, eLc, aCons, aNil, oNone, oSome, asI, asB, op1, op2, op3, opA, opLC, viewA, view, allD, mkTup, mkLst, mkCell, mkL, Out.bind, toS, toSB, toSA, toSI, iSeq, seqOf, iRange1, iRange2, rng1, rng2, cmpD, addD_int, subD, modD, lenD, GF.intD, listD, tupleD, isiD, ixD, eqD, neD, inLD, notInLD, isND, notND, isNon, negD, revD, slD, max2D, min2D, absD, retS, wipeR, s0, sl, ev, cp0, cp1, cp16, cp3, cap2, e1, e2, own1, own2, hd0, hT, shaped_int, eqv_int, w_0, w_1, w_2, w_3, w_5, a1]
          simp at e3
          simp [sSeq, sIf, sNil, sSet, sRet, sRetN, sExpr, sPar, sAsg, sSub, sApp, putCell, bT, bNot, bOr, eOp, eV, eC, eIf, eAnd, eOr, eNot, eUn, eBi, eCall, eCall0, eTup, eLst, eCell, eListC, eSl, eChain, eLc, aCons, aNil, oNone, oSome, asI, asB, op1, op2, op3, opA, opLC, viewA, view, allD, mkTup, mkLst, mkCell, mkL, Out.bind, toS, toSB, toSA, toSI, iSeq, seqOf, iRange1, iRange2, rng1, rng2, cmpD, addD_int, subD, modD, lenD, GF.intD, listD, tupleD, isiD, ixD, eqD, neD, inLD, notInLD, isND, notND, isNon, negD, revD, slD, max2D, min2D, absD, retS, wipeR, e3, own3, ix, own4]
/-! ### the law -/
def isTrueO (o : Out S) : Bool := match o with
  | .ok (.d (.bl true)) _ => true
  | _ => false
theorem isTrueO_ok {o : Out S} (h : isTrueO o = true) : ∃ μ', o = .ok (.d (.bl true)) μ' := by
  unfold isTrueO at h
  split at h
  · exact ⟨_, rfl⟩
  · cases h
theorem written_ok (μ : Mu) : ∃ μ', f__law_written [] μ = .ok (.d (.bl true)) μ' := isTrueO_ok (by kernel_rfl)
theorem flipB_enc {f : Fl} (h : okF f) : flipB (encF f) = true := by
  obtain ⟨b, i⟩ := f
  unfold okF at h
  cases b with
  | true =>
    simp at h
    simp [encF, flipB, isIntB, h]
  | false =>
    simp at h
    have : ¬ (Str.ofString "but" = Str.ofString "top") := by decide
    simp [encF, flipB, isIntB, h, this]
theorem scriptB_enc {l : List Fl} (h : ∀ f ∈ l, okF f) (hl : l.length ≤ 8) : scriptB (encS l) = true := by
  unfold scriptB encS
  have : (l.map encF).all flipB = true := List.all_eq_true.mpr fun x hx => by
    obtain ⟨f, hf, rfl⟩ := List.mem_map.mp hx
    exact flipB_enc (h f hf)
  simp only [List.length_map, this, hl, decide_true, Bool.and_self]
theorem turn2 {ns : List Int} {kk : Int} {c n : Nat} {l : List Fl} {a b cc : Option S} {μ : Mu} (x : D) (hl : l.length ≤ 8) (h : Src μ c n) :
    ∃ d μ', lb2_law [some (.d (.scr ns)), some (.d (.int kk)), some (.c c), some (.d (encS l)), a, some (.d x), b] μ = .nx [some (.d (.scr ns)), some (.d (.int kk)), some (.c c), some (.d (encS l)), a, some (.d x), some (.d d)] μ' ∧ Src μ' c n := by
  have hd : datA 10 (l.map encF) = true := datA_all.mpr fun x hx => by
    obtain ⟨f, _, rfl⟩ := List.mem_map.mp hx
    exact dat_mono encF_dat (by decide)
  have hs := (small_encS (N := 9) (l := l) (by omega) (by decide)).2
  obtain ⟨d, l', μ1, e1, s1, p1, q1, u1, v1⟩ := variant_ok 3 2 (l.map encF) 10 9 h (by decide) (by decide) (by decide) (by decide) (by decide) (by decide) hd hs (by simp; omega)
  have h1 := s1.src h
  have hd1 : dat 11 d = true := by rcases p1 with z | z <;> rw [z, dat] <;> exact q1
  have r1 := right_ok (μ := μ1) hd1 (by decide)
  obtain ⟨d2, l2, μ2, e2, s2, p2, q2, u2, v2⟩ := variant_ok 3 2 l' 10 10 h1 (by decide) (by decide) (by decide) (by decide) (by decide) (by decide) q1 u1 v1
  have h2 := s2.src h1
  have hd2 : dat 11 d2 = true := by rcases p2 with z | z <;> rw [z, dat] <;> exact q2
  have r2 := right_ok (μ := μ2) hd2 (by decide)
  obtain ⟨d3, μ3, e3, s3, p3, _⟩ := any_ok 4 3 h2 (by decide) (by decide)
  have h3 := s3.src h2
  have r3 := right_ok (μ := μ3) p3 (by decide)
  obtain ⟨f, μ4, e4, s4, _⟩ := flip_ok h3
  have h4 := s4.src h3
  have r4 := right_ok (μ := μ4) (@encF_dat f) (by decide)
  refine ⟨d, μ4, ?_, h4⟩
  unfold lb2_law
  rw [e_flip]
  unfold encS
  rcases p1 with z | z
  · subst z
    simp [sSeq, sIf, sNil, sSet, sRet, sRetN, sExpr, sPar, sAsg, sSub, sApp, putCell, bT, bNot, bAnd, bOr, eOp, eV, eC, eIf, eAnd, eOr, eNot, eUn, eBi, eCall, eCall0, eTup, eLst, eCell, eListC, eSl, eChain, eLc, aCons, aNil, oNone, oSome, asI, asB, op1, op2, op3, opA, opLC, viewA, view, allD, mkTup, mkLst, mkCell, mkL, Out.bind, toS, toSB, toSA, toSI, iSeq, seqOf, iRange1, iRange2, rng1, rng2, cmpD, addD, subD, modD, lenD, GF.intD, listD, tupleD, isiD, isiB, ixD, eqD, neD, inLD, notInLD, isND, notND, isNon, negD, revD, slD, max2D, min2D, absD, retS, wipeR, e1, r1, e2, r2, e3, r3, e4, r4]
  · subst z
    simp [sSeq, sIf, sNil, sSet, sRet, sRetN, sExpr, sPar, sAsg, sSub, sApp, putCell, bT, bNot, bAnd, bOr, eOp, eV, eC, eIf, eAnd, eOr, eNot, eUn, eBi, eCall, eCall0, eTup, eLst, eCell, eListC, eSl, eChain, eLc, aCons, aNil, oNone, oSome, asI, asB, op1, op2, op3, opA, opLC, viewA, view, allD, mkTup, mkLst, mkCell, mkL, Out.bind, toS, toSB, toSA, toSI, iSeq, seqOf, iRange1, iRange2, rng1, rng2, cmpD, addD, subD, modD, lenD, GF.intD, listD, tupleD, isiD, isiB, ixD, eqD, neD, inLD, notInLD, isND, notND, isNon, negD, revD, slD, max2D, min2D, absD, retS, wipeR, e1, r1, e2, r2, e3, r3, e4, r4]
theorem turn {ns : List Int} {a1 a2 a3 a4 a5 a6 : Option S} {kk : Int} {μ : Mu} (hk : 0 ≤ kk) : ∃ b2 b3 b4 b5 b6 μ', lb3_law [some (.d (.scr ns)), some (.d (.int kk)), a2, a3, a4, a5, a6] μ = .nx [some (.d (.scr ns)), some (.d (.int kk)), b2, b3, b4, b5, b6] μ' := by
  obtain ⟨u, v, e1⟩ := source_ok (μ := μ) (ns := ns) hk
  have h1 : Src (μ ++ [.lst [.int u, .int v]]) μ.length (μ.length + 1) := ⟨by simp, u, v, by simp⟩
  obtain ⟨l, μ2, e2, s2, okl, hl⟩ := script_ok h1 (most := 8) (by decide) (by decide)
  have hl : l.length ≤ 8 := hl
  have h2 := s2.src h1
  have r2 := is_script_ok (μ := μ2) (encS_dat l) (by decide)
  rw [scriptB_enc okl hl] at r2
  obtain ⟨vs, hvs, hok⟩ : ∃ vs : List D, iSeq (eLst (aCons (eV 3) (aCons (eBi listD (aCons (eV 3) aNil)) (aCons (eOp mulD (eSl (eV 3) oNone (oSome (eC (.int 1)))) (eC (.int 9))) (aCons (eIf (bT (eOp neD (eV 3) (eTup aNil))) (eOp ixD (eV 3) (eC (.int 0))) (eC .non)) aNil)))))
      [some (.d (.scr ns)), some (.d (.int kk)), some (.c μ.length), some (.d (encS l)), a4, a5, a6] μ2 = .ok vs μ2 ∧ ∀ v ∈ vs, dat 3 v = true := by
    have hdA : datA 2 (l.map encF) = true := datA_all.mpr fun x hx => by
      obtain ⟨f, _, rfl⟩ := List.mem_map.mp hx
      exact dat_mono encF_dat (by decide)
    have hs : SeqAt.shaped (toPy (encS l)) = true := shaped_of (encS_dat l) (by decide)
    have hs0 : SeqAt.shaped (toPy (.tup [])) = true := by decide +kernel
    have hc : (l.map encF).length ≤ cap := by rw [List.length_map]; unfold cap; omega
    have cp4 : (4 : Nat) ≤ cap := by decide
    have c1 : cutL (l.map encF) none (some 1) = (l.map encF).take 1 := by rw [cut_to (by decide)]; rfl
    have lt1 : ((l.map encF).take 1).length ≤ 1000 := by rw [List.length_take]; omega
    have mm : mulD (.tup ((l.map encF).take 1)) (.int 9) = some (.tup (List.replicate 9 ((l.map encF).take 1)).flatten) := by
      simp only [mulD]
      rw [if_pos ⟨by decide, by decide, lt1⟩]; rfl
    have hm9 : dat 3 (.tup (List.replicate 9 ((l.map encF).take 1)).flatten) = true := by
      rw [dat, datA_all]
      intro x hx
      obtain ⟨y, hy, hxy⟩ := List.mem_flatten.mp hx
      rw [List.eq_of_mem_replicate hy] at hxy
      exact datA_all.mp hdA x (List.mem_of_mem_take hxy)
    unfold encS at hs
    cases l with
    | nil =>
      have ev : eqvD (.tup []) (.tup []) = true := by decide +kernel
      refine ⟨[encS [], .lst [], .tup (List.replicate 9 (([] : List Fl).map encF |>.take 1)).flatten, .non], ?_, ?_⟩
      · unfold encS
        have c0 : cutL ([] : List D) none (some 1) = [] := by decide
        simp [sSeq, sIf, sNil, sSet, sRet, sRetN, sExpr, sPar, sAsg, sSub, sApp, putCell, bT, bNot, bAnd, bOr, eOp, eV, eC, eIf, eAnd, eOr, eNot, eUn, eBi, eCall, eCall0, eTup, eLst, eCell, eListC, eSl, eChain, eLc, aCons, aNil, oNone, oSome, asI, asB, op1, op2, op3, opA, opLC, viewA, view, allD, mkTup, mkLst, mkCell, mkL, Out.bind, toS, toSB, toSA, toSI, iSeq, seqOf, iRange1, iRange2, rng1, rng2, cmpD, addD_int, subD, modD, lenD, GF.intD, listD, tupleD, isiD, isiB, ixD, eqD, neD, inLD, notInLD, isND, notND, isNon, negD, revD, slD, max2D, min2D, absD, retS, wipeR, hs0, ev, cp4, cap, c0, mulD]
      · intro v hv
        simp only [List.mem_cons, List.not_mem_nil, or_false] at hv
        rcases hv with z | z | z | z <;> subst z
        · exact dat_mono (encS_dat []) (by decide)
        · rfl
        · exact hm9
        · rfl
    | cons f l =>
      have ev : eqvD (.tup ((f :: l).map encF)) (.tup []) = false := by simp [eqvD, toPy, toPyA, PyData.eqv, PyData.eqvAll]
      have i0 : atI ((f :: l).map encF) 0 = some (encF f) := by rw [List.map_cons, atI_zero]
      refine ⟨[encS (f :: l), .lst ((f :: l).map encF), .tup (List.replicate 9 ((f :: l).map encF |>.take 1)).flatten, encF f], ?_, ?_⟩
      · unfold encS
        generalize hL : List.map encF (f :: l) = L at *
        simp [sSeq, sIf, sNil, sSet, sRet, sRetN, sExpr, sPar, sAsg, sSub, sApp, putCell, bT, bNot, bAnd, bOr, eOp, eV, eC, eIf, eAnd, eOr, eNot, eUn, eBi, eCall, eCall0, eTup, eLst, eCell, eListC, eSl, eChain, eLc, aCons, aNil, oNone, oSome, asI, asB, op1, op2, op3, opA, opLC, viewA, view, allD, mkTup, mkLst, mkCell, mkL, Out.bind, toS, toSB, toSA, toSI, iSeq, seqOf, iRange1, iRange2, rng1, rng2, cmpD, addD_int, subD, modD, lenD, GF.intD, listD, tupleD, isiD, isiB, ixD, eqD, neD, inLD, notInLD, isND, notND, isNon, negD, revD, slD, max2D, min2D, absD, retS, wipeR, hs, hs0, ev, cp4, hc, c1, mm, i0]
      · intro v hv
        simp only [List.mem_cons, List.not_mem_nil, or_false] at hv
        rcases hv with z | z | z | z <;> subst z
        · exact dat_mono (encS_dat _) (by decide)
        · rw [dat]; exact hdA
        · exact hm9
        · exact dat_mono encF_dat (by decide)
  obtain ⟨ρ1, μ3, e3, ⟨b4, rfl, rfl⟩⟩ := forD_inv (t := gN 4) (body := lb1_law) (fun ρ μ' => ∃ b4, ρ = [some (.d (.scr ns)), some (.d (.int kk)), some (.c μ.length), some (.d (encS l)), b4, a5, a6] ∧ μ' = μ2) vs (ρ := [some (.d (.scr ns)), some (.d (.int kk)), some (.c μ.length), some (.d (encS l)), a4, a5, a6]) (μ := μ2) (fun x hx ρ μ' h => by
    obtain ⟨b4, rfl, rfl⟩ := h
    have r := right_ok (μ := μ') (hok x hx) (by decide)
    refine ⟨_, rfl, _, μ', ?_, ⟨some (.d x), rfl, rfl⟩⟩
    unfold lb1_law
    simp [sSeq, sIf, sNil, sSet, sRet, sRetN, sExpr, sPar, sAsg, sSub, sApp, putCell, bT, bNot, bAnd, bOr, eOp, eV, eC, eIf, eAnd, eOr, eNot, eUn, eBi, eCall, eCall0, eTup, eLst, eCell, eListC, eSl, eChain, eLc, aCons, aNil, oNone, oSome, asI, asB, op1, op2, op3, opA, opLC, viewA, view, allD, mkTup, mkLst, mkCell, mkL, Out.bind, toS, toSB, toSA, toSI, iSeq, seqOf, iRange1, iRange2, rng1, rng2, cmpD, addD, subD, modD, lenD, GF.intD, listD, tupleD, isiD, isiB, ixD, eqD, neD, inLD, notInLD, isND, notND, isNon, negD, revD, slD, max2D, min2D, absD, retS, wipeR, r]) ⟨a4, rfl, rfl⟩
  obtain ⟨ρ2, μ4, e4, ⟨b5, b6, rfl, h4⟩⟩ := forD_inv (t := gN 5) (body := lb2_law) (fun ρ μ' => ∃ b5 b6, ρ = [some (.d (.scr ns)), some (.d (.int kk)), some (.c μ.length), some (.d (encS l)), b4, b5, b6] ∧ Src μ' μ.length (μ.length + 1)) (upD 0 10) (ρ := [some (.d (.scr ns)), some (.d (.int kk)), some (.c μ.length), some (.d (encS l)), b4, a5, a6]) (μ := μ3) (fun x hx ρ μ' h => by
    obtain ⟨b5, b6, rfl, h'⟩ := h
    obtain ⟨d, μ5, e5, h5⟩ := turn2 (ns := ns) (kk := kk) (a := b4) (b := b6) (cc := none) x hl h'
    exact ⟨_, rfl, _, μ5, e5, _, _, rfl, h5⟩) ⟨a5, a6, rfl, h2⟩
  have hR : iRange1 (aCons (eC (.int 10)) aNil) [some (.d (.scr ns)), some (.d (.int kk)), some (.c μ.length), some (.d (encS l)), b4, a5, a6] μ3 = .ok (upD 0 10) μ3 := rfl
  refine ⟨some (.c μ.length), some (.d (encS l)), b4, b5, b6, μ4, ?_⟩
  unfold lb3_law
  rw [e_source, e_script]
  have k1 : eCall 2 g_source (aCons (eV 0) (aCons (eV 1) aNil)) [some (.d (.scr ns)), some (.d (.int kk)), a2, a3, a4, a5, a6] μ = .ok (.c μ.length) (μ ++ [.lst [.int u, .int v]]) := by
    simp [sSeq, sIf, sNil, sSet, sRet, sRetN, sExpr, sPar, sAsg, sSub, sApp, putCell, bT, bNot, bAnd, bOr, eOp, eV, eC, eIf, eAnd, eOr, eNot, eUn, eBi, eCall, eCall0, eTup, eLst, eCell, eListC, eSl, eChain, eLc, aCons, aNil, oNone, oSome, asI, asB, op1, op2, op3, opA, opLC, viewA, view, allD, mkTup, mkLst, mkCell, mkL, Out.bind, toS, toSB, toSA, toSI, iSeq, seqOf, iRange1, iRange2, rng1, rng2, cmpD, addD, subD, modD, lenD, GF.intD, listD, tupleD, isiD, isiB, ixD, eqD, neD, inLD, notInLD, isND, notND, isNon, negD, revD, slD, max2D, min2D, absD, retS, wipeR, e1]
  have k2 : eCall 2 g_script (aCons (eV 2) (aCons (eC (.int 8)) aNil)) [some (.d (.scr ns)), some (.d (.int kk)), some (.c μ.length), a3, a4, a5, a6] (μ ++ [.lst [.int u, .int v]]) = .ok (.d (encS l)) μ3 := by
    simp [sSeq, sIf, sNil, sSet, sRet, sRetN, sExpr, sPar, sAsg, sSub, sApp, putCell, bT, bNot, bAnd, bOr, eOp, eV, eC, eIf, eAnd, eOr, eNot, eUn, eBi, eCall, eCall0, eTup, eLst, eCell, eListC, eSl, eChain, eLc, aCons, aNil, oNone, oSome, asI, asB, op1, op2, op3, opA, opLC, viewA, view, allD, mkTup, mkLst, mkCell, mkL, Out.bind, toS, toSB, toSA, toSI, iSeq, seqOf, iRange1, iRange2, rng1, rng2, cmpD, addD, subD, modD, lenD, GF.intD, listD, tupleD, isiD, isiB, ixD, eqD, neD, inLD, notInLD, isND, notND, isNon, negD, revD, slD, max2D, min2D, absD, retS, wipeR, e2]
  have k3 : bNot (bT (eCall 1 f_is_script (aCons (eV 3) aNil))) [some (.d (.scr ns)), some (.d (.int kk)), some (.c μ.length), some (.d (encS l)), a4, a5, a6] μ3 = .ok false μ3 := by
    simp [sSeq, sIf, sNil, sSet, sRet, sRetN, sExpr, sPar, sAsg, sSub, sApp, putCell, bT, bNot, bAnd, bOr, eOp, eV, eC, eIf, eAnd, eOr, eNot, eUn, eBi, eCall, eCall0, eTup, eLst, eCell, eListC, eSl, eChain, eLc, aCons, aNil, oNone, oSome, asI, asB, op1, op2, op3, opA, opLC, viewA, view, allD, mkTup, mkLst, mkCell, mkL, Out.bind, toS, toSB, toSA, toSI, iSeq, seqOf, iRange1, iRange2, rng1, rng2, cmpD, addD, subD, modD, lenD, GF.intD, listD, tupleD, isiD, isiB, ixD, eqD, neD, inLD, notInLD, isND, notND, isNon, negD, revD, slD, max2D, min2D, absD, retS, wipeR, r2]
  simp [sSeq, sSet, k1, Out.bind, toS, k2, sIf, k3, toSB, sNil, sFor, hvs, toSI, e3, hR, e4]
theorem law_true : ∀ ns : List Int, ns.length ≤ 63 → ∃ μ, f_law [.d (.scr ns)] [] = .ok (.d (.bl true)) μ := by
  intro ns hns
  unfold f_law fnD d_law
  have er : rho0 7 [S.d (.scr ns)] = [some (.d (.scr ns)), none, none, none, none, none, none] := rfl
  rw [er]
  obtain ⟨kk, hk⟩ : ∃ kk : Int, kk = (if (if (ns.length : Int) < 16 then (ns.length : Int) else 16) > 6 then (if (ns.length : Int) < 16 then (ns.length : Int) else 16) else 6) := ⟨_, rfl⟩
  have hkR : bigR kk := by
    unfold bigR
    rw [hk]
    split
    · split <;> omega
    · omega
  have hIter : iRange1 (aCons (eBi max2D (aCons (eC (.int 6)) (aCons (eBi min2D (aCons (eC (.int 16)) (aCons (eBi lenD (aCons (eV 0) aNil)) aNil))) aNil))) aNil) [some (.d (.scr ns)), none, none, none, none, none, none] [] = .ok (upD 0 kk.toNat) [] := by
    have hkR' := hkR
    rw [hk] at hkR'
    rw [hk]
    simp [sSeq, sIf, sNil, sSet, sRet, sRetN, sExpr, sPar, sAsg, sSub, sApp, putCell, bT, bNot, bAnd, bOr, eOp, eV, eC, eIf, eAnd, eOr, eNot, eUn, eBi, eCall, eCall0, eTup, eLst, eCell, eListC, eSl, eChain, eLc, aCons, aNil, oNone, oSome, asI, asB, op1, op2, op3, opA, opLC, viewA, view, allD, mkTup, mkLst, mkCell, mkL, Out.bind, toS, toSB, toSA, toSI, iSeq, seqOf, iRange1, iRange2, rng1, rng2, cmpD, addD, subD, modD, lenD, GF.intD, listD, tupleD, isiD, isiB, ixD, eqD, neD, inLD, notInLD, isND, notND, isNon, negD, revD, slD, max2D, min2D, absD, retS, wipeR]
    exact hkR'
  obtain ⟨ρ', μ', e, _⟩ := forD_inv (t := gN 1) (body := lb3_law) (fun ρ _ => ∃ a1 a2 a3 a4 a5 a6, ρ = [some (.d (.scr ns)), a1, a2, a3, a4, a5, a6]) (upD 0 kk.toNat) (ρ := [some (.d (.scr ns)), none, none, none, none, none, none]) (μ := []) (fun x hx ρ μ h => by
    obtain ⟨a1, a2, a3, a4, a5, a6, rfl⟩ := h
    obtain ⟨i, rfl, i0, _⟩ := upD_mem hx
    obtain ⟨b2, b3, b4, b5, b6, μ', e⟩ := turn (ns := ns) (a1 := a1) (a2 := a2) (a3 := a3) (a4 := a4) (a5 := a5) (a6 := a6) (kk := i) (μ := μ) i0
    exact ⟨_, rfl, _, μ', e, _, _, _, _, _, _, rfl⟩) ⟨_, _, _, _, _, _, rfl⟩
  obtain ⟨μw, ew⟩ := written_ok μ'
  refine ⟨μw.take 0, ?_⟩
  simp only [sSeq, sFor]
  rw [hIter]
  simp only [toSI]
  rw [e]
  simp [sSeq, sIf, sNil, sSet, sRet, sRetN, sExpr, sPar, sAsg, sSub, sApp, putCell, bT, bNot, bAnd, bOr, eOp, eV, eC, eIf, eAnd, eOr, eNot, eUn, eBi, eCall, eCall0, eTup, eLst, eCell, eListC, eSl, eChain, eLc, aCons, aNil, oNone, oSome, asI, asB, op1, op2, op3, opA, opLC, viewA, view, allD, mkTup, mkLst, mkCell, mkL, Out.bind, toS, toSB, toSA, toSI, iSeq, seqOf, iRange1, iRange2, rng1, rng2, cmpD, addD, subD, modD, lenD, GF.intD, listD, tupleD, isiD, isiB, ixD, eqD, neD, inLD, notInLD, isND, notND, isNon, negD, revD, slD, max2D, min2D, absD, retS, wipeR, ew]
end Law

namespace Law
open PySem PySem.Spec PyProof.Rows L2 GF
theorem all_mk {l : PySem.W.OpenLaw} {w : World} {K : PySem.W.Frag} {h : Heap} {mg : Str → Option Value} {fa : Addr} (X : K.In h) (G : h.Ns mainGlobals mg) (hfa : mg "law" = some (.ref fa))
    {od0 an0 : Option Addr} {sl0 : Array (Option Value)} {g0 : Addr} {oc0 kV0 dc0 pm0 cd0 ct0 : Value}
    {od1 an1 : Option Addr} {sl1 : Array (Option Value)} {g1 : Addr} {oc1 kV1 dc1 pm1 cd1 ct1 : Value}
    {od2 an2 : Option Addr} {sl2 : Array (Option Value)} {g2 : Addr} {oc2 kV2 dc2 pm2 cd2 ct2 : Value}
    {od3 an3 : Option Addr} {sl3 : Array (Option Value)} {g3 : Addr} {oc3 kV3 dc3 pm3 cd3 ct3 : Value}
    {od4 an4 : Option Addr} {sl4 : Array (Option Value)} {g4 : Addr} {oc4 kV4 dc4 pm4 cd4 ct4 : Value}
    {od5 an5 : Option Addr} {sl5 : Array (Option Value)} {g5 : Addr} {oc5 kV5 dc5 pm5 cd5 ct5 : Value}
    {od6 an6 : Option Addr} {sl6 : Array (Option Value)} {g6 : Addr} {oc6 kV6 dc6 pm6 cd6 ct6 : Value}
    {od7 an7 : Option Addr} {sl7 : Array (Option Value)} {g7 : Addr} {oc7 kV7 dc7 pm7 cd7 ct7 : Value}
    {od8 an8 : Option Addr} {sl8 : Array (Option Value)} {g8 : Addr} {oc8 kV8 dc8 pm8 cd8 ct8 : Value}
    {od9 an9 : Option Addr} {sl9 : Array (Option Value)} {g9 : Addr} {oc9 kV9 dc9 pm9 cd9 ct9 : Value}
    {od10 an10 : Option Addr} {sl10 : Array (Option Value)} {g10 : Addr} {oc10 kV10 dc10 pm10 cd10 ct10 : Value}
    {od11 an11 : Option Addr} {sl11 : Array (Option Value)} {g11 : Addr} {oc11 kV11 dc11 pm11 cd11 ct11 : Value}
    {od12 an12 : Option Addr} {sl12 : Array (Option Value)} {g12 : Addr} {oc12 kV12 dc12 pm12 cd12 ct12 : Value}
    {od13 an13 : Option Addr} {sl13 : Array (Option Value)} {g13 : Addr} {oc13 kV13 dc13 pm13 cd13 ct13 : Value}
    {od14 an14 : Option Addr} {sl14 : Array (Option Value)} {g14 : Addr} {oc14 kV14 dc14 pm14 cd14 ct14 : Value}
    {od15 an15 : Option Addr} {sl15 : Array (Option Value)} {g15 : Addr} {oc15 kV15 dc15 pm15 cd15 ct15 : Value}
    {od16 an16 : Option Addr} {sl16 : Array (Option Value)} {g16 : Addr} {oc16 kV16 dc16 pm16 cd16 ct16 : Value}
    {od17 an17 : Option Addr} {sl17 : Array (Option Value)} {g17 : Addr} {oc17 kV17 dc17 pm17 cd17 ct17 : Value}
    {od18 an18 : Option Addr} {sl18 : Array (Option Value)} {g18 : Addr} {oc18 kV18 dc18 pm18 cd18 ct18 : Value}
    (a0 : PySem.W.nsIn K mainGlobals "is_int" = some (some (.ref g0))) (l0 : K.lookup g0 = some ⟨oc0, od0, .func (PySem.W.fnOf "is_int" "is_int" (defArgs s_is_int) (defBody s_is_int) (defScope s_is_int) .none kV0 dc0 pm0 an0 cd0 ct0), sl0⟩) (c0 : PySem.W.codeIn K cd0 "is_int" = true) (k0 : PySem.W.keepIn K (.ref g0) = true)
    (a1 : PySem.W.nsIn K mainGlobals "is_right_flip" = some (some (.ref g1))) (l1 : K.lookup g1 = some ⟨oc1, od1, .func (PySem.W.fnOf "is_right_flip" "is_right_flip" (defArgs s_is_right_flip) (defBody s_is_right_flip) (defScope s_is_right_flip) .none kV1 dc1 pm1 an1 cd1 ct1), sl1⟩) (c1 : PySem.W.codeIn K cd1 "is_right_flip" = true) (k1 : PySem.W.keepIn K (.ref g1) = true)
    (a2 : PySem.W.nsIn K mainGlobals "are_flips" = some (some (.ref g2))) (l2 : K.lookup g2 = some ⟨oc2, od2, .func (PySem.W.fnOf "are_flips" "are_flips" (defArgs s_are_flips) (defBody s_are_flips) (defScope s_are_flips) .none kV2 dc2 pm2 an2 cd2 ct2), sl2⟩) (c2 : PySem.W.codeIn K cd2 "are_flips" = true) (k2 : PySem.W.keepIn K (.ref g2) = true)
    (a3 : PySem.W.nsIn K mainGlobals "is_right_script" = some (some (.ref g3))) (l3 : K.lookup g3 = some ⟨oc3, od3, .func (PySem.W.fnOf "is_right_script" "is_right_script" (defArgs s_is_right_script) (defBody s_is_right_script) (defScope s_is_right_script) .none kV3 dc3 pm3 an3 cd3 ct3), sl3⟩) (c3 : PySem.W.codeIn K cd3 "is_right_script" = true) (k3 : PySem.W.keepIn K (.ref g3) = true)
    (a4 : PySem.W.nsIn K mainGlobals "is_flip" = some (some (.ref g4))) (l4 : K.lookup g4 = some ⟨oc4, od4, .func (PySem.W.fnOf "is_flip" "is_flip" (defArgs s_is_flip) (defBody s_is_flip) (defScope s_is_flip) .none kV4 dc4 pm4 an4 cd4 ct4), sl4⟩) (c4 : PySem.W.codeIn K cd4 "is_flip" = true) (k4 : PySem.W.keepIn K (.ref g4) = true)
    (a5 : PySem.W.nsIn K mainGlobals "is_script" = some (some (.ref g5))) (l5 : K.lookup g5 = some ⟨oc5, od5, .func (PySem.W.fnOf "is_script" "is_script" (defArgs s_is_script) (defBody s_is_script) (defScope s_is_script) .none kV5 dc5 pm5 an5 cd5 ct5), sl5⟩) (c5 : PySem.W.codeIn K cd5 "is_script" = true) (k5 : PySem.W.keepIn K (.ref g5) = true)
    (a6 : PySem.W.nsIn K mainGlobals "_law_source" = some (some (.ref g6))) (l6 : K.lookup g6 = some ⟨oc6, od6, .func (PySem.W.fnOf "_law_source" "_law_source" (defArgs s__law_source) (defBody s__law_source) (defScope s__law_source) .none kV6 dc6 pm6 an6 cd6 ct6), sl6⟩) (c6 : PySem.W.codeIn K cd6 "_law_source" = true) (k6 : PySem.W.keepIn K (.ref g6) = true)
    (a7 : PySem.W.nsIn K mainGlobals "_law_pick" = some (some (.ref g7))) (l7 : K.lookup g7 = some ⟨oc7, od7, .func (PySem.W.fnOf "_law_pick" "_law_pick" (defArgs s__law_pick) (defBody s__law_pick) (defScope s__law_pick) .none kV7 dc7 pm7 an7 cd7 ct7), sl7⟩) (c7 : PySem.W.codeIn K cd7 "_law_pick" = true) (k7 : PySem.W.keepIn K (.ref g7) = true)
    (a8 : PySem.W.nsIn K mainGlobals "_law_chosen" = some (some (.ref g8))) (l8 : K.lookup g8 = some ⟨oc8, od8, .func (PySem.W.fnOf "_law_chosen" "_law_chosen" (defArgs s__law_chosen) (defBody s__law_chosen) (defScope s__law_chosen) .none kV8 dc8 pm8 an8 cd8 ct8), sl8⟩) (c8 : PySem.W.codeIn K cd8 "_law_chosen" = true) (k8 : PySem.W.keepIn K (.ref g8) = true)
    (a9 : PySem.W.nsIn K mainGlobals "_law_is_bool" = some (some (.ref g9))) (l9 : K.lookup g9 = some ⟨oc9, od9, .func (PySem.W.fnOf "_law_is_bool" "_law_is_bool" (defArgs s__law_is_bool) (defBody s__law_is_bool) (defScope s__law_is_bool) .none kV9 dc9 pm9 an9 cd9 ct9), sl9⟩) (c9 : PySem.W.codeIn K cd9 "_law_is_bool" = true) (k9 : PySem.W.keepIn K (.ref g9) = true)
    (a10 : PySem.W.nsIn K mainGlobals "_law_whole" = some (some (.ref g10))) (l10 : K.lookup g10 = some ⟨oc10, od10, .func (PySem.W.fnOf "_law_whole" "_law_whole" (defArgs s__law_whole) (defBody s__law_whole) (defScope s__law_whole) .none kV10 dc10 pm10 an10 cd10 ct10), sl10⟩) (c10 : PySem.W.codeIn K cd10 "_law_whole" = true) (k10 : PySem.W.keepIn K (.ref g10) = true)
    (a11 : PySem.W.nsIn K mainGlobals "_law_any_value" = some (some (.ref g11))) (l11 : K.lookup g11 = some ⟨oc11, od11, .func (PySem.W.fnOf "_law_any_value" "_law_any_value" (defArgs s__law_any_value) (defBody s__law_any_value) (defScope s__law_any_value) .none kV11 dc11 pm11 an11 cd11 ct11), sl11⟩) (c11 : PySem.W.codeIn K cd11 "_law_any_value" = true) (k11 : PySem.W.keepIn K (.ref g11) = true)
    (a12 : PySem.W.nsIn K mainGlobals "_law_variant" = some (some (.ref g12))) (l12 : K.lookup g12 = some ⟨oc12, od12, .func (PySem.W.fnOf "_law_variant" "_law_variant" (defArgs s__law_variant) (defBody s__law_variant) (defScope s__law_variant) .none kV12 dc12 pm12 an12 cd12 ct12), sl12⟩) (c12 : PySem.W.codeIn K cd12 "_law_variant" = true) (k12 : PySem.W.keepIn K (.ref g12) = true)
    (a13 : PySem.W.nsIn K mainGlobals "_law_flip" = some (some (.ref g13))) (l13 : K.lookup g13 = some ⟨oc13, od13, .func (PySem.W.fnOf "_law_flip" "_law_flip" (defArgs s__law_flip) (defBody s__law_flip) (defScope s__law_flip) .none kV13 dc13 pm13 an13 cd13 ct13), sl13⟩) (c13 : PySem.W.codeIn K cd13 "_law_flip" = true) (k13 : PySem.W.keepIn K (.ref g13) = true)
    (a14 : PySem.W.nsIn K mainGlobals "_law_script" = some (some (.ref g14))) (l14 : K.lookup g14 = some ⟨oc14, od14, .func (PySem.W.fnOf "_law_script" "_law_script" (defArgs s__law_script) (defBody s__law_script) (defScope s__law_script) .none kV14 dc14 pm14 an14 cd14 ct14), sl14⟩) (c14 : PySem.W.codeIn K cd14 "_law_script" = true) (k14 : PySem.W.keepIn K (.ref g14) = true)
    (a15 : PySem.W.nsIn K mainGlobals "_law_good_flip" = some (some (.ref g15))) (l15 : K.lookup g15 = some ⟨oc15, od15, .func (PySem.W.fnOf "_law_good_flip" "_law_good_flip" (defArgs s__law_good_flip) (defBody s__law_good_flip) (defScope s__law_good_flip) .none kV15 dc15 pm15 an15 cd15 ct15), sl15⟩) (c15 : PySem.W.codeIn K cd15 "_law_good_flip" = true) (k15 : PySem.W.keepIn K (.ref g15) = true)
    (a16 : PySem.W.nsIn K mainGlobals "_law_right" = some (some (.ref g16))) (l16 : K.lookup g16 = some ⟨oc16, od16, .func (PySem.W.fnOf "_law_right" "_law_right" (defArgs s__law_right) (defBody s__law_right) (defScope s__law_right) .none kV16 dc16 pm16 an16 cd16 ct16), sl16⟩) (c16 : PySem.W.codeIn K cd16 "_law_right" = true) (k16 : PySem.W.keepIn K (.ref g16) = true)
    (a17 : PySem.W.nsIn K mainGlobals "_law_written" = some (some (.ref g17))) (l17 : K.lookup g17 = some ⟨oc17, od17, .func (PySem.W.fnOf "_law_written" "_law_written" (defArgs s__law_written) (defBody s__law_written) (defScope s__law_written) .none kV17 dc17 pm17 an17 cd17 ct17), sl17⟩) (c17 : PySem.W.codeIn K cd17 "_law_written" = true) (k17 : PySem.W.keepIn K (.ref g17) = true)
    (a18 : PySem.W.nsIn K mainGlobals "law" = some (some (.ref g18))) (l18 : K.lookup g18 = some ⟨oc18, od18, .func (PySem.W.fnOf "law" "law" (defArgs s_law) (defBody s_law) (defScope s_law) .none kV18 dc18 pm18 an18 cd18 ct18), sl18⟩) (c18 : PySem.W.codeIn K cd18 "law" = true) (k18 : PySem.W.keepIn K (.ref g18) = true)
    (z_all : PySem.W.nsIn K mainGlobals "all" = some none)
    (z_bool : PySem.W.nsIn K mainGlobals "bool" = some none)
    (z_int : PySem.W.nsIn K mainGlobals "int" = some none)
    (z_isinstance : PySem.W.nsIn K mainGlobals "isinstance" = some none)
    (z_len : PySem.W.nsIn K mainGlobals "len" = some none)
    (z_list : PySem.W.nsIn K mainGlobals "list" = some none)
    (z_max : PySem.W.nsIn K mainGlobals "max" = some none)
    (z_min : PySem.W.nsIn K mainGlobals "min" = some none)
    (z_range : PySem.W.nsIn K mainGlobals "range" = some none)
    (z_str : PySem.W.nsIn K mainGlobals "str" = some none)
    (z_tuple : PySem.W.nsIn K mainGlobals "tuple" = some none)
    {t_MOST_FLIPS : Tok} (y_MOST_FLIPS : PySem.W.nsIn K mainGlobals "MOST_FLIPS" = some (some (.int 8 t_MOST_FLIPS))) :
    ∃ fd : FuncData, (∀ (s : Shared) (v : Value), BindsTo s fd ⟨[v], []⟩ [("_law_script_here", v)]) ∧ ∀ base : Heap, K.In base → base.Ns mainGlobals mg → FnOk l.prog w K mg base (L2.CX l.prog w) 12 fa fd ["_law_script_here"] (spLaw K) := by
  have e := hfa.symm.trans (PySem.W.mg_of X G a18)
  cases e
  have T0 : At K mg "is_int" s_is_int ["value", "low", "high"] := at_mk X G a0 l0 c0 k0 (fun _ _ _ _ _ _ us hl => match us, hl with | [_, _, _], _ => rfl)
  have T1 : At K mg "is_right_flip" s_is_right_flip ["value"] := at_mk X G a1 l1 c1 k1 (fun _ _ _ _ _ _ us hl => match us, hl with | [_], _ => rfl)
  have T2 : At K mg "are_flips" s_are_flips ["value", "most"] := at_mk X G a2 l2 c2 k2 (fun _ _ _ _ _ _ us hl => match us, hl with | [_, _], _ => rfl)
  have T3 : At K mg "is_right_script" s_is_right_script ["value"] := at_mk X G a3 l3 c3 k3 (fun _ _ _ _ _ _ us hl => match us, hl with | [_], _ => rfl)
  have T4 : At K mg "is_flip" s_is_flip ["value"] := at_mk X G a4 l4 c4 k4 (fun _ _ _ _ _ _ us hl => match us, hl with | [_], _ => rfl)
  have T5 : At K mg "is_script" s_is_script ["value"] := at_mk X G a5 l5 c5 k5 (fun _ _ _ _ _ _ us hl => match us, hl with | [_], _ => rfl)
  have T6 : At K mg "_law_source" s__law_source ["_law_script_here", "_law_k"] := at_mk X G a6 l6 c6 k6 (fun _ _ _ _ _ _ us hl => match us, hl with | [_, _], _ => rfl)
  have T7 : At K mg "_law_pick" s__law_pick ["_law_source_here", "_law_many"] := at_mk X G a7 l7 c7 k7 (fun _ _ _ _ _ _ us hl => match us, hl with | [_, _], _ => rfl)
  have T8 : At K mg "_law_chosen" s__law_chosen ["_law_source_here", "_law_things"] := at_mk X G a8 l8 c8 k8 (fun _ _ _ _ _ _ us hl => match us, hl with | [_, _], _ => rfl)
  have T9 : At K mg "_law_is_bool" s__law_is_bool ["_law_told", "_law_due"] := at_mk X G a9 l9 c9 k9 (fun _ _ _ _ _ _ us hl => match us, hl with | [_, _], _ => rfl)
  have T10 : At K mg "_law_whole" s__law_whole ["_law_value", "_law_low", "_law_high"] := at_mk X G a10 l10 c10 k10 (fun _ _ _ _ _ _ us hl => match us, hl with | [_, _, _], _ => rfl)
  have T11 : At K mg "_law_any_value" s__law_any_value ["_law_source_here", "_law_deep"] := at_mk X G a11 l11 c11 k11 (fun _ _ _ _ _ _ us hl => match us, hl with | [_, _], _ => rfl)
  have T12 : At K mg "_law_variant" s__law_variant ["_law_source_here", "_law_value", "_law_deep"] := at_mk X G a12 l12 c12 k12 (fun _ _ _ _ _ _ us hl => match us, hl with | [_, _, _], _ => rfl)
  have T13 : At K mg "_law_flip" s__law_flip ["_law_source_here"] := at_mk X G a13 l13 c13 k13 (fun _ _ _ _ _ _ us hl => match us, hl with | [_], _ => rfl)
  have T14 : At K mg "_law_script" s__law_script ["_law_source_here", "_law_most_so"] := at_mk X G a14 l14 c14 k14 (fun _ _ _ _ _ _ us hl => match us, hl with | [_, _], _ => rfl)
  have T15 : At K mg "_law_good_flip" s__law_good_flip ["_law_value"] := at_mk X G a15 l15 c15 k15 (fun _ _ _ _ _ _ us hl => match us, hl with | [_], _ => rfl)
  have T16 : At K mg "_law_right" s__law_right ["_law_value"] := at_mk X G a16 l16 c16 k16 (fun _ _ _ _ _ _ us hl => match us, hl with | [_], _ => rfl)
  have T17 : At K mg "_law_written" s__law_written [] := at_mk X G a17 l17 c17 k17 (fun _ _ _ _ _ _ us hl => match us, hl with | [], _ => rfl)
  have nb_all : NoB mg "all" := ⟨PySem.W.mg_none_of X G z_all⟩
  have nb_bool : NoB mg "bool" := ⟨PySem.W.mg_none_of X G z_bool⟩
  have nb_int : NoB mg "int" := ⟨PySem.W.mg_none_of X G z_int⟩
  have nb_isinstance : NoB mg "isinstance" := ⟨PySem.W.mg_none_of X G z_isinstance⟩
  have nb_len : NoB mg "len" := ⟨PySem.W.mg_none_of X G z_len⟩
  have nb_list : NoB mg "list" := ⟨PySem.W.mg_none_of X G z_list⟩
  have nb_max : NoB mg "max" := ⟨PySem.W.mg_none_of X G z_max⟩
  have nb_min : NoB mg "min" := ⟨PySem.W.mg_none_of X G z_min⟩
  have nb_range : NoB mg "range" := ⟨PySem.W.mg_none_of X G z_range⟩
  have nb_str : NoB mg "str" := ⟨PySem.W.mg_none_of X G z_str⟩
  have nb_tuple : NoB mg "tuple" := ⟨PySem.W.mg_none_of X G z_tuple⟩
  have ci_MOST_FLIPS : IntB mg "MOST_FLIPS" 8 := ⟨_, PySem.W.mg_of X G y_MOST_FLIPS⟩
  refine ⟨PySem.W.fnOf "law" "law" (defArgs s_law) (defBody s_law) (defScope s_law) .none kV18 dc18 pm18 an18 cd18 ct18, fun s v => .of_eq rfl, fun base _ _ => ?_⟩
  have ok_is_int := at_is_int (P := l.prog) (w := w) (base := base) T0 nb_int nb_isinstance nb_bool
  have ok_is_right_flip := at_is_right_flip (P := l.prog) (w := w) (base := base) T1 ok_is_int nb_tuple nb_isinstance nb_len nb_str
  have ok_are_flips := at_are_flips (P := l.prog) (w := w) (base := base) T2 ok_is_right_flip nb_tuple nb_isinstance nb_len nb_all
  have ok_is_right_script := at_is_right_script (P := l.prog) (w := w) (base := base) T3 ok_are_flips ci_MOST_FLIPS
  have ok_is_flip := at_is_flip (P := l.prog) (w := w) (base := base) T4 ok_is_right_flip
  have ok_is_script := at_is_script (P := l.prog) (w := w) (base := base) T5 ok_is_right_script
  have ok__law_source := at__law_source (P := l.prog) (w := w) (base := base) T6 nb_len nb_int
  have ok__law_pick := at__law_pick (P := l.prog) (w := w) (base := base) T7 nb_int
  have ok__law_chosen := at__law_chosen (P := l.prog) (w := w) (base := base) T8 ok__law_pick nb_len
  have ok__law_is_bool := at__law_is_bool (P := l.prog) (w := w) (base := base) T9 nb_bool nb_isinstance
  have ok__law_whole := at__law_whole (P := l.prog) (w := w) (base := base) T10 nb_int nb_isinstance nb_bool
  have ok__law_any_value := at__law_any_value (P := l.prog) (w := w) (base := base) T11 ok__law_pick ok__law_chosen nb_range nb_tuple 4
  have ok__law_variant := at__law_variant (P := l.prog) (w := w) (base := base) T12 ok__law_any_value ok__law_pick ok__law_chosen nb_list nb_len nb_tuple nb_isinstance 3
  have ok__law_flip := at__law_flip (P := l.prog) (w := w) (base := base) T13 ok__law_pick
  have ok__law_script := at__law_script (P := l.prog) (w := w) (base := base) T14 ok__law_pick ok__law_flip nb_range nb_tuple
  have ok__law_good_flip := at__law_good_flip (P := l.prog) (w := w) (base := base) T15 ok__law_whole nb_tuple nb_isinstance nb_len nb_str nb_int
  have ok__law_right := at__law_right (P := l.prog) (w := w) (base := base) T16 ok__law_good_flip ok__law_is_bool ok_is_script ok_is_flip nb_tuple nb_isinstance nb_len
  have ok__law_written := at__law_written (P := l.prog) (w := w) (base := base) T17 ok_is_flip ok_is_script nb_tuple
  exact law_end (at_law (P := l.prog) (w := w) (base := base) (fun_mk (st := s_law) l18 c18 k18) ok__law_source ok__law_script ok_is_script ok__law_right ok__law_variant ok__law_any_value ok__law_flip ok__law_written nb_range nb_len nb_min nb_max nb_list nb_tuple) law_true
end Law
open PySem PySem.W PyProof.Rows
set_option maxHeartbeats 0 in
theorem PySem.Challenge.cw_griddleflips_k01_flips_and_scripts_holds : PySem.Challenge.rw_griddleflips_k01_flips_and_scripts.Holds := by
  w_on; o_law; k_head; (case hw => w_witness2)
  k_fill
  refine L2.walk_of (l := PySem.Challenge.rw_griddleflips_k01_flips_and_scripts) (n := 63) (k := 12) (x := "_law_script_here") (CX := fun w => L2.CX PySem.Challenge.rw_griddleflips_k01_flips_and_scripts.prog w) (sp := fun w => GF.spLaw _) rfl (by decide) rfl ⟨rfl, by decide, by decide⟩ (fun w h Y => PySem.W.kIn_of Y) ?F (fun _ _ a ns hl _ hS => ⟨a, ns, rfl, hS, hl, fun _ => rfl⟩) (fun w H s e s' h => by obtain ⟨_, _, _, _, _, _, _, _, _, _, _, _, z⟩ := h; exact z)
  case F =>
    intro w mg fa h KX G hmg
    refine' Law.all_mk KX G hmg ?a0 ?l0 ?c0 ?k0 ?a1 ?l1 ?c1 ?k1 ?a2 ?l2 ?c2 ?k2 ?a3 ?l3 ?c3 ?k3 ?a4 ?l4 ?c4 ?k4 ?a5 ?l5 ?c5 ?k5 ?a6 ?l6 ?c6 ?k6 ?a7 ?l7 ?c7 ?k7 ?a8 ?l8 ?c8 ?k8 ?a9 ?l9 ?c9 ?k9 ?a10 ?l10 ?c10 ?k10 ?a11 ?l11 ?c11 ?k11 ?a12 ?l12 ?c12 ?k12 ?a13 ?l13 ?c13 ?k13 ?a14 ?l14 ?c14 ?k14 ?a15 ?l15 ?c15 ?k15 ?a16 ?l16 ?c16 ?k16 ?a17 ?l17 ?c17 ?k17 ?a18 ?l18 ?c18 ?k18 ?z_all ?z_bool ?z_int ?z_isinstance ?z_len ?z_list ?z_max ?z_min ?z_range ?z_str ?z_tuple ?y_MOST_FLIPS
    (case a0 => k_is); (case l0 => k_is); (case c0 => k_is); (case k0 => k_is)
    (case a1 => k_is); (case l1 => k_is); (case c1 => k_is); (case k1 => k_is)
    (case a2 => k_is); (case l2 => k_is); (case c2 => k_is); (case k2 => k_is)
    (case a3 => k_is); (case l3 => k_is); (case c3 => k_is); (case k3 => k_is)
    (case a4 => k_is); (case l4 => k_is); (case c4 => k_is); (case k4 => k_is)
    (case a5 => k_is); (case l5 => k_is); (case c5 => k_is); (case k5 => k_is)
    (case a6 => k_is); (case l6 => k_is); (case c6 => k_is); (case k6 => k_is)
    (case a7 => k_is); (case l7 => k_is); (case c7 => k_is); (case k7 => k_is)
    (case a8 => k_is); (case l8 => k_is); (case c8 => k_is); (case k8 => k_is)
    (case a9 => k_is); (case l9 => k_is); (case c9 => k_is); (case k9 => k_is)
    (case a10 => k_is); (case l10 => k_is); (case c10 => k_is); (case k10 => k_is)
    (case a11 => k_is); (case l11 => k_is); (case c11 => k_is); (case k11 => k_is)
    (case a12 => k_is); (case l12 => k_is); (case c12 => k_is); (case k12 => k_is)
    (case a13 => k_is); (case l13 => k_is); (case c13 => k_is); (case k13 => k_is)
    (case a14 => k_is); (case l14 => k_is); (case c14 => k_is); (case k14 => k_is)
    (case a15 => k_is); (case l15 => k_is); (case c15 => k_is); (case k15 => k_is)
    (case a16 => k_is); (case l16 => k_is); (case c16 => k_is); (case k16 => k_is)
    (case a17 => k_is); (case l17 => k_is); (case c17 => k_is); (case k17 => k_is)
    (case a18 => k_is); (case l18 => k_is); (case c18 => k_is); (case k18 => k_is)
    (case z_all => k_is)
    (case z_bool => k_is)
    (case z_int => k_is)
    (case z_isinstance => k_is)
    (case z_len => k_is)
    (case z_list => k_is)
    (case z_max => k_is)
    (case z_min => k_is)
    (case z_range => k_is)
    (case z_str => k_is)
    (case z_tuple => k_is)
    (case y_MOST_FLIPS => k_is)

