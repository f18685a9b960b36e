import PyProof.Rows.All
import HandS.ForExc
import HandS.ForMost
import HandS.IsInst
import HandS.TupAny
import HandS.TupMul
import HandS.Style
import HandS.Wide
import HandS.Lambda
import HandS.HotCalls
import HandS.CallLocal
import HandS.Dict
import HandS.Deep
import HandS.CallSlots
import HandS.ExcIs
import HandS.Text
import HandS.EndTab
import HandS.Conv
import KE.KRevSl
import HandS.NestedK
import HandS.ExcInit
import KE.KExcSuper
import HandS.ExcInitHot
import HandS.ExcField
import HandS.FStr
import HandS.Iter
import PySem.Challenge.RW_griddleflips_k82_whole_scripts_written_a
set_option Elab.async false
set_option linter.all false
set_option maxRecDepth 100000
set_option maxHeartbeats 2000000
/-! Data without a heap, and what it is in the abstract heap. -/
namespace GF
open PySem PySem.Spec PyProof.Rows L2

/-! ### data -/
inductive D where
  | non | bl (b : Bool) | int (i : Int) | str (s : Str)
  | tup (l : List D) | lst (l : List D)
  | scr (l : List Int)
  | fn (x : Str)
  | ty (n : String)
  | adr (a : Addr)
  | dic (ks : List Str) (l : List D)
/-- what a name holds: data, or the k-th cell -/
inductive S where
  | d (d : D) | c (k : Nat)
inductive Cell where
  | lst (l : List D)
  | dead
abbrev Mu := List Cell
abbrev Rho := List (Option S)
/-- an exception: its class by name, its fields -/
structure Exn where
  cls : Str
  fs : List (Str × D)
inductive Out (α : Type) where
  | stk
  | ok (a : α) (m : Mu)
  | exc (x : Exn) (m : Mu)
def Out.bind {α β : Type} (o : Out α) (k : α → Mu → Out β) : Out β := match o with
  | .stk => .stk
  | .ok a m => k a m
  | .exc x m => .exc x m
theorem bind_ok {α β : Type} (a : α) (m : Mu) (k : α → Mu → Out β) : (Out.ok a m).bind k = k a m := rfl
theorem bind_stk {α β : Type} (k : α → Mu → Out β) : (Out.stk : Out α).bind k = .stk := rfl
theorem bind_exc {α β : Type} (x : Exn) (m : Mu) (k : α → Mu → Out β) : (Out.exc x m : Out α).bind k = .exc x m := rfl

/-- the defs of a law that may make lambdas: their tables of code objects are watched -/
def lamNames : List Str := ["_law_by_two", "_law_by_three", "_law_by_four", "_law_called", "_law_refusals", "_law_written", "_law_made_right", "law"]
def lamQ (x : Str) : Str := x ++ ".<locals>." ++ "<lambda>"
def tabsK (K : PySem.W.Frag) : List (Addr × Str) := lamNames.filterMap fun x => (PySem.W.tabIn K x).map fun q => (q.2, lamQ x)

section
variable (K : PySem.W.Frag) (mg : Str → Option Value)
mutual
inductive Is (F : Hp) : D → V → Prop
  | non : Is F .non .non
  | bl (b : Bool) : Is F (.bl b) (.bl b)
  | int (i : Int) : Is F (.int i) (.int i)
  | str (x : Str) : Is F (.str x) (.str x)
  | tup {a : Addr} {vs : List V} {l : List D} : SqT K F a vs → IsA F l vs → Is F (.tup l) (.ref a)
  | lst {a : Addr} {vs : List V} {l : List D} : F a = some (.lst vs) → IsA F l vs → Is F (.lst l) (.ref a)
  | scr {a : Addr} {l : List Int} : SqL K F a (l.map V.int) → Is F (.scr l) (.ref a)
  | fn {x : Str} {a : Addr} : mg x = some (.ref a) → Is F (.fn x) (.ref a)
  | ty (n : String) : Is F (.ty n) (.ty n)
  | adr (a : Addr) : Is F (.adr a) (.ref a)
  | dic {a : Addr} {kvs : List (Key × V)} {ks : List Str} {l : List D} {vs : List V} : F a = some (.dK kvs) → (∀ k : Str, valV kvs (Sum.inr k) = (ks.zip vs).lookup k) → IsA F l vs → Is F (.dic ks l) (.ref a)
inductive IsA (F : Hp) : List D → List V → Prop
  | nil : IsA F [] []
  | cons {d : D} {l : List D} {v : V} {vs : List V} : Is F d v → IsA F l vs → IsA F (d :: l) (v :: vs)
end
def CellIs (F : Hp) : Cell → Option HO → Prop
  | .lst l, o => ∃ vs, o = some (.lst vs) ∧ IsA K mg F l vs
  | .dead, o => ∃ u, o = some u ∧ ∀ ps, u ≠ .tbl ps
/-- neither a table nor a code object -/
def Loose (o : Option HO) : Prop := ∀ u, o = some u → (∀ ps, u ≠ .tbl ps) ∧ ∀ g, u ≠ .ext g
theorem loose_none : Loose none := fun _ h => by cases h
theorem loose_lst {vs : List V} : Loose (some (.lst vs)) := fun _ h => by cases h; exact ⟨fun _ z => (by cases z), fun _ z => (by cases z)⟩
theorem tabs_upd {T : List (Addr × Str)} {H : Hp} {p : Addr} {o : HO} (t : LamX.Tabs T H) (h : Loose (H p)) : LamX.Tabs T (upd H p o) := by
  intro q hq
  obtain ⟨ps, h1, h2, h3⟩ := t q hq
  have n1 : ∀ {b u}, H b = some u → ((∃ ps, u = .tbl ps) ∨ ∃ g, u = .ext g) → upd H p o b = some u := fun {b u} e z => by
    rw [upd_ne (fun w => ?_)]
    · exact e
    · subst w
      obtain ⟨y1, y2⟩ := h u e
      rcases z with ⟨ps, z⟩ | ⟨g, z⟩
      · exact y1 ps z
      · exact y2 g z
  refine ⟨ps, n1 h1 (.inl ⟨ps, rfl⟩), h2, fun pos cv hc => ?_⟩
  obtain ⟨c, e1, e2⟩ := h3 pos cv hc
  exact ⟨c, e1, n1 e2 (.inr ⟨_, rfl⟩)⟩
/-- where the cells stand; what is settled; what is held fast besides -/
structure Mc where
  al : List Addr
  fr : Hp
  fx : Hp
/-- the cells μ stand at m.al, apart from what is settled and what is held fast -/
structure Mem (m : Mc) (μ : Mu) (H : Hp) : Prop where
  sub : Same m.fr H
  fix : Same m.fx H
  dis : ∀ a o, m.fx a = some o → m.fr a = none ∧ a ∉ m.al
  len : m.al.length = μ.length
  nd : m.al.Nodup
  cell : ∀ (k : Nat) (a : Addr) (c : Cell), m.al[k]? = some a → μ[k]? = some c → CellIs K mg m.fr c (H a) ∧ (∀ l, c = .lst l → m.fr a = none)
  tab : LamX.Tabs (tabsK K) H
  ntb : ∀ b ps, m.fr b ≠ some (.tbl ps)
  ntx : ∀ b ps, m.fx b ≠ some (.tbl ps)
def SIs (m : Mc) : S → V → Prop
  | .d d, v => Is K mg m.fr d v
  | .c k, v => ∃ a, m.al[k]? = some a ∧ v = .ref a
structure Ext (m m' : Mc) : Prop where
  pre : ∃ β, m'.al = m.al ++ β
  same : Same m.fr m'.fr
  fix : m'.fx = m.fx
structure RhoIs (m : Mc) (ρ : Rho) (σ : L2.St) : Prop where
  len : σ.length = ρ.length
  has : ∀ (i : Nat) (s : S), ρ[i]? = some (some s) → ∃ v, σ[i]? = some (some v) ∧ SIs K mg m s v
inductive SAll (m : Mc) : List S → List V → Prop
  | nil : SAll m [] []
  | cons {s : S} {l : List S} {v : V} {vs : List V} : SIs K mg m s v → SAll m l vs → SAll m (s :: l) (v :: vs)
def FsIs (F : Hp) : List (Str × D) → List (Str × V) → Prop
  | [], vs => vs = []
  | (x, d) :: r, vs => ∃ v q, vs = (x, v) :: q ∧ Is K mg F d v ∧ FsIs F r q
/-- how an exception lies -/
def ExnIs (F H : Hp) (x : Exn) (cls : Value) (d : Option Addr) : Prop :=
  ∃ C, mg x.cls = some (.ref C) ∧ cls = .ref C ∧ ((x.fs = [] ∧ d = none) ∨ (x.fs ≠ [] ∧ ∃ dd vs, d = some dd ∧ H dd = some (.xd vs) ∧ FsIs K mg F x.fs vs))
def wpE (m : Mc) (o : Out S) (Q : V → Hp → Prop) (E : XK) : Prop := match o with
  | .stk => False
  | .ok s μ => ∀ v H' m', Ext m m' → Mem K mg m' μ H' → SIs K mg m' s v → Q v H'
  | .exc x μ => ∀ cls d H' m', Ext m m' → Mem K mg m' μ H' → ExnIs K mg m'.fr H' x cls d → E cls d H'
def wpA (m : Mc) (o : Out (List S)) (Q : List V → Hp → Prop) (E : XK) : Prop := match o with
  | .stk => False
  | .ok s μ => ∀ v H' m', Ext m m' → Mem K mg m' μ H' → SAll K mg m' s v → Q v H'
  | .exc x μ => ∀ cls d H' m', Ext m m' → Mem K mg m' μ H' → ExnIs K mg m'.fr H' x cls d → E cls d H'
def wpB (m : Mc) (o : Out Bool) (Q : Bool → Hp → Prop) (E : XK) : Prop := match o with
  | .stk => False
  | .ok b μ => ∀ H' m', Ext m m' → Mem K mg m' μ H' → Q b H'
  | .exc x μ => ∀ cls d H' m', Ext m m' → Mem K mg m' μ H' → ExnIs K mg m'.fr H' x cls d → E cls d H'
end

section
variable {K : PySem.W.Frag} {mg : Str → Option Value} {m m' m1 : Mc} {F F' : Hp} {H H' : Hp} {μ : Mu}
theorem Ext.refl : Ext m m := ⟨⟨[], by simp⟩, Same.refl _, rfl⟩
theorem Ext.trans (a : Ext m m1) (b : Ext m1 m') : Ext m m' := by
  obtain ⟨β, e⟩ := a.pre
  obtain ⟨γ, e'⟩ := b.pre
  exact ⟨⟨β ++ γ, by rw [e', e]; simp⟩, a.same.trans b.same, b.fix.trans a.fix⟩
theorem Ext.get (a : Ext m m') {k : Nat} {x : Addr} (h : m.al[k]? = some x) : m'.al[k]? = some x := by
  obtain ⟨β, e⟩ := a.pre
  have hk : k < m.al.length := by
    rcases Nat.lt_or_ge k m.al.length with z | z
    · exact z
    · rw [List.getElem?_eq_none z] at h; cases h
  rw [e, List.getElem?_append_left hk]; exact h
theorem Same.sqt {a : Addr} {vs : List V} (e : Same F F') (h : SqT K F a vs) : SqT K F' a vs := by
  rcases h with (h | ⟨o, h⟩) | h
  · exact .inl (.inl (e _ _ h))
  · exact .inl (.inr ⟨o, e _ _ h⟩)
  · exact .inr h
mutual
theorem Is.mono (e : Same F F') : ∀ {d : D} {v : V}, Is K mg F d v → Is K mg F' d v
  | _, _, .non => .non
  | _, _, .bl b => .bl b
  | _, _, .int i => .int i
  | _, _, .str x => .str x
  | _, _, .tup h q => .tup (Same.sqt e h) (IsA.mono e q)
  | _, _, .lst h q => .lst (e _ _ h) (IsA.mono e q)
  | _, _, .scr h => .scr (e.seq h)
  | _, _, .fn h => .fn h
  | _, _, .ty n => .ty n
  | _, _, .adr a => .adr a
  | _, _, .dic h q r => .dic (e _ _ h) q (IsA.mono e r)
theorem IsA.mono (e : Same F F') : ∀ {l : List D} {vs : List V}, IsA K mg F l vs → IsA K mg F' l vs
  | _, _, .nil => .nil
  | _, _, .cons h q => .cons (Is.mono e h) (IsA.mono e q)
end
theorem SIs.mono (e : Ext m m') {s : S} {v : V} (h : SIs K mg m s v) : SIs K mg m' s v := by
  cases s with
  | d d => exact Is.mono e.same h
  | c k => obtain ⟨a, h1, h2⟩ := h; exact ⟨a, e.get h1, h2⟩
theorem SAll.mono (e : Ext m m') {l : List S} {vs : List V} (h : SAll K mg m l vs) : SAll K mg m' l vs := by
  induction h with
  | nil => exact .nil
  | cons a _ ih => exact .cons (a.mono e) ih
theorem SAll.length {l : List S} {vs : List V} (h : SAll K mg m l vs) : l.length = vs.length := by
  induction h with
  | nil => rfl
  | cons _ _ ih => simp [ih]
theorem RhoIs.mono (e : Ext m m') {ρ : Rho} {σ : L2.St} (h : RhoIs K mg m ρ σ) : RhoIs K mg m' ρ σ :=
  ⟨h.len, fun i s hi => by obtain ⟨v, h1, h2⟩ := h.has i s hi; exact ⟨v, h1, h2.mono e⟩⟩
theorem RhoIs.set {ρ : Rho} {σ : L2.St} (h : RhoIs K mg m ρ σ) (i : Nat) {s : S} {v : V} (r : SIs K mg m s v) : RhoIs K mg m (ρ.set i (some s)) (σ.set i (some v)) := by
  refine ⟨by rw [List.length_set, List.length_set]; exact h.len, fun j s' hj => ?_⟩
  by_cases e : i = j
  · subst e
    by_cases hl : i < ρ.length
    · rw [List.getElem?_set_self hl] at hj
      cases hj
      exact ⟨v, by rw [List.getElem?_set_self (by rw [h.len]; exact hl)], r⟩
    · rw [List.getElem?_eq_none (by rw [List.length_set]; omega)] at hj; cases hj
  · rw [List.getElem?_set_ne e] at hj
    obtain ⟨w, h1, h2⟩ := h.has j s' hj
    exact ⟨w, by rw [List.getElem?_set_ne e]; exact h1, h2⟩
/-- a name forgotten -/
theorem RhoIs.unset {ρ : Rho} {σ : L2.St} (h : RhoIs K mg m ρ σ) (i : Nat) : RhoIs K mg m (ρ.set i none) (σ.set i none) := by
  refine ⟨by rw [List.length_set, List.length_set]; exact h.len, fun j s' hj => ?_⟩
  by_cases e : i = j
  · subst e
    by_cases hl : i < ρ.length
    · rw [List.getElem?_set_self hl] at hj; cases hj
    · rw [List.getElem?_eq_none (by rw [List.length_set]; omega)] at hj; cases hj
  · rw [List.getElem?_set_ne e] at hj
    obtain ⟨w, h1, h2⟩ := h.has j s' hj
    exact ⟨w, by rw [List.getElem?_set_ne e]; exact h1, h2⟩
theorem IsA.length : ∀ {l : List D} {vs : List V}, IsA K mg F l vs → l.length = vs.length
  | _, _, .nil => rfl
  | _, _, .cons _ q => by simp [IsA.length q]
theorem IsA.get : ∀ {l : List D} {vs : List V} {i : Nat} {d : D}, IsA K mg F l vs → l[i]? = some d → ∃ v, vs[i]? = some v ∧ Is K mg F d v
  | _, _, _, _, .nil, e => by simp at e
  | _, _, 0, _, .cons r _, e => by simp at e; subst e; exact ⟨_, rfl, r⟩
  | _, _, i + 1, d, .cons _ t, e => by
    obtain ⟨u, h1, h2⟩ := IsA.get (i := i) (d := d) t (by simpa using e)
    exact ⟨u, by simpa using h1, h2⟩
theorem IsA.get' : ∀ {l : List D} {vs : List V} {i : Nat} {v : V}, IsA K mg F l vs → vs[i]? = some v → ∃ d, l[i]? = some d ∧ Is K mg F d v
  | _, _, _, _, .nil, e => by simp at e
  | _, _, 0, _, .cons r _, e => by simp at e; subst e; exact ⟨_, rfl, r⟩
  | _, _, i + 1, d, .cons _ t, e => by
    obtain ⟨u, h1, h2⟩ := IsA.get' (i := i) (v := d) t (by simpa using e)
    exact ⟨u, by simpa using h1, h2⟩
theorem IsA.append : ∀ {l m : List D} {vs ws : List V}, IsA K mg F l vs → IsA K mg F m ws → IsA K mg F (l ++ m) (vs ++ ws)
  | _, _, _, _, .nil, s => s
  | _, _, _, _, .cons r t, s => .cons r (IsA.append t s)
theorem IsA.take : ∀ {l : List D} {vs : List V} (n : Nat), IsA K mg F l vs → IsA K mg F (l.take n) (vs.take n)
  | _, _, 0, _ => .nil
  | _, _, _ + 1, .nil => .nil
  | _, _, n + 1, .cons r t => .cons r (IsA.take n t)
theorem IsA.drop : ∀ {l : List D} {vs : List V} (n : Nat), IsA K mg F l vs → IsA K mg F (l.drop n) (vs.drop n)
  | _, _, 0, r => r
  | _, _, _ + 1, .nil => .nil
  | _, _, n + 1, .cons _ t => IsA.drop n t
theorem IsA.set : ∀ {l : List D} {vs : List V} (i : Nat) {d : D} {v : V}, IsA K mg F l vs → Is K mg F d v → IsA K mg F (l.set i d) (vs.set i v)
  | _, _, _, _, _, .nil, _ => .nil
  | _, _, 0, _, _, .cons _ t, r => .cons r t
  | _, _, i + 1, _, _, .cons q t, r => .cons q (IsA.set i t r)
theorem IsA.reverse {l : List D} {vs : List V} (h : IsA K mg F l vs) : IsA K mg F l.reverse vs.reverse := by
  induction l generalizing vs with
  | nil => cases h; exact .nil
  | cons d l ih =>
    cases h with
    | cons r t => rw [List.reverse_cons, List.reverse_cons]; exact (ih t).append (.cons r .nil)
theorem IsA.rep {l : List D} {vs : List V} (h : IsA K mg F l vs) : ∀ k : Nat, IsA K mg F (List.replicate k l).flatten (List.replicate k vs).flatten
  | 0 => .nil
  | k + 1 => by rw [List.replicate_succ, List.replicate_succ, List.flatten_cons, List.flatten_cons]; exact h.append (IsA.rep h k)

/-! ### a new object that is settled at once; a cell changed -/
abbrev Mc.add (m : Mc) (p : Addr) (o : HO) : Mc := { m with fr := upd m.fr p o }
abbrev Mc.psh (m : Mc) (p : Addr) : Mc := { m with al := m.al ++ [p] }
theorem Mem.free (M : Mem K mg m μ H) {p : Addr} (h : H p = none) : m.fr p = none := M.sub.free h
theorem Mem.nin (M : Mem K mg m μ H) {p : Addr} (h : H p = none) : p ∉ m.al := fun hm => by
  obtain ⟨k, hk, e⟩ := List.mem_iff_getElem.mp hm
  have e1 : m.al[k]? = some p := by rw [List.getElem?_eq_getElem hk, e]
  have hk2 : k < μ.length := by rw [← M.len]; exact hk
  have e2 : μ[k]? = some μ[k] := List.getElem?_eq_getElem hk2
  have := (M.cell k p _ e1 e2).1
  rw [h] at this
  cases hc : μ[k] with
  | lst l => rw [hc] at this; obtain ⟨vs, z, _⟩ := this; cases z
  | dead => rw [hc] at this; obtain ⟨u, z, _⟩ := this; cases z
theorem CellIs.mono (e : Same F F') {c : Cell} {o : Option HO} (h : CellIs K mg F c o) : CellIs K mg F' c o := by
  cases c with
  | lst l => obtain ⟨vs, h1, h2⟩ := h; exact ⟨vs, h1, h2.mono e⟩
  | dead => exact h
theorem same_add {p : Addr} (h : F p = none) (o : HO) : Same F (upd F p o) := fun b x e => by rw [upd_ne (ne_of_none e h)]; exact e
theorem ext_add {p : Addr} (h : m.fr p = none) (o : HO) : Ext m (m.add p o) := ⟨⟨[], by simp⟩, same_add h o, rfl⟩
theorem ntb_upd {F : Hp} (h : ∀ b ps, F b ≠ some (.tbl ps)) {p : Addr} {o : HO} (ho : ∀ ps, o ≠ .tbl ps) : ∀ b ps, upd F p o b ≠ some (.tbl ps) := fun b ps z => by
  by_cases e : b = p
  · subst e; rw [upd_same] at z; cases z; exact ho ps rfl
  · rw [upd_ne e] at z; exact h b ps z
theorem Mem.new (M : Mem K mg m μ H) {p : Addr} (h : H p = none) (o : HO) (ho : ∀ ps, o ≠ .tbl ps := by intro _ z; cases z) : Mem K mg (m.add p o) μ (upd H p o) := by
  have nf := M.free h
  have sm := same_add nf o
  have nx : m.fx p = none := M.fix.free h
  refine ⟨fun b x e => ?_, fun b x e => by rw [upd_ne (ne_of_none e nx)]; exact M.fix _ _ e, fun b x e => ?_, M.len, M.nd, fun k a c h1 h2 => ?_, tabs_upd M.tab (by rw [h]; exact loose_none), ntb_upd M.ntb ho, M.ntx⟩
  · by_cases hb : b = p
    · subst hb
      have e : upd m.fr b o b = some x := e
      rw [upd_same] at e ⊢; exact e
    · have e : upd m.fr p o b = some x := e
      rw [upd_ne hb] at e ⊢; exact M.sub _ _ e
  · obtain ⟨q1, q2⟩ := M.dis b x e
    exact ⟨by show upd m.fr p o b = none; rw [upd_ne (ne_of_none e nx)]; exact q1, q2⟩
  · have hn : a ≠ p := fun e => M.nin h (e ▸ List.mem_of_getElem? h1)
    obtain ⟨q1, q2⟩ := M.cell k a c h1 h2
    rw [upd_ne hn]
    exact ⟨q1.mono sm, fun l e => by show upd m.fr p o a = none; rw [upd_ne hn]; exact q2 l e⟩
/-- a new cell -/
theorem ext_psh {p : Addr} : Ext m (m.psh p) := ⟨⟨[p], rfl⟩, Same.refl _, rfl⟩
theorem Mem.push (M : Mem K mg m μ H) {p : Addr} (h : H p = none) {l : List D} {vs : List V} (r : IsA K mg m.fr l vs) : Mem K mg (m.psh p) (μ ++ [.lst l]) (upd H p (.lst vs)) := by
  have nf := M.free h
  have nx : m.fx p = none := M.fix.free h
  refine ⟨fun b x e => by rw [upd_ne (ne_of_none e nf)]; exact M.sub _ _ e, fun b x e => by rw [upd_ne (ne_of_none e nx)]; exact M.fix _ _ e, fun b x e => ?_, by show (m.al ++ [p]).length = _; rw [List.length_append, List.length_append, M.len]; rfl, ?_, fun k a c h1 h2 => ?_, tabs_upd M.tab (by rw [h]; exact loose_none), M.ntb, M.ntx⟩
  · obtain ⟨q1, q2⟩ := M.dis b x e
    refine ⟨q1, fun hb => ?_⟩
    rcases List.mem_append.mp (show b ∈ m.al ++ [p] from hb) with z | z
    · exact q2 z
    · have : b = p := by simpa using z
      rw [this, nx] at e; cases e
  · show (m.al ++ [p]).Nodup
    rw [List.nodup_append]
    refine ⟨M.nd, by simp, fun a ha b hb e => ?_⟩
    have : b = p := by simpa using hb
    subst this; subst e
    exact M.nin h ha
  · have h1 : (m.al ++ [p])[k]? = some a := h1
    by_cases hk : k < m.al.length
    · rw [List.getElem?_append_left hk] at h1
      rw [List.getElem?_append_left (by rw [← M.len]; exact hk)] at h2
      have hn : a ≠ p := fun e => M.nin h (e ▸ List.mem_of_getElem? h1)
      rw [upd_ne hn]
      exact M.cell k a c h1 h2
    · rw [List.getElem?_append_right (by omega)] at h1
      rw [List.getElem?_append_right (by rw [← M.len]; omega)] at h2
      have hk0 : k - m.al.length = 0 := by
        cases hz : k - m.al.length with
        | zero => rfl
        | succ n => rw [hz] at h1; simp at h1
      rw [hk0] at h1
      rw [← M.len, hk0] at h2
      cases h1; cases h2
      rw [upd_same]
      exact ⟨⟨vs, rfl, r⟩, fun _ _ => nf⟩
theorem nodup_get {l : List Addr} (hN : l.Nodup) {i j : Nat} {x : Addr} (a : l[i]? = some x) (b : l[j]? = some x) : i = j := by
  obtain ⟨h1, e1⟩ := List.getElem?_eq_some_iff.mp a
  obtain ⟨h2, e2⟩ := List.getElem?_eq_some_iff.mp b
  exact (List.getElem_inj hN).mp (e1.trans e2.symm)
theorem get_lt {α : Type} {l : List α} {k : Nat} {x : α} (h : l[k]? = some x) : k < l.length := by
  rcases Nat.lt_or_ge k l.length with z | z
  · exact z
  · rw [List.getElem?_eq_none z] at h; cases h
/-- a cell is written -/
theorem Mem.put (M : Mem K mg m μ H) {k : Nat} {p : Addr} {l0 l : List D} {vs : List V} (h1 : m.al[k]? = some p) (h2 : μ[k]? = some (.lst l0)) (r : IsA K mg m.fr l vs) : Mem K mg m (μ.set k (.lst l)) (upd H p (.lst vs)) := by
  have nf := (M.cell k p _ h1 h2).2 l0 rfl
  refine ⟨fun b x e => by rw [upd_ne (ne_of_none e nf)]; exact M.sub _ _ e, fun b x e => ?_, M.dis, by rw [List.length_set]; exact M.len, M.nd, fun j a c g1 g2 => ?_, tabs_upd M.tab (by obtain ⟨vs0, e0, _⟩ := (M.cell k p _ h1 h2).1; rw [e0]; exact loose_lst), M.ntb, M.ntx⟩
  · rw [upd_ne (fun z => (M.dis b x e).2 (by rw [z]; exact List.mem_of_getElem? h1))]; exact M.fix _ _ e
  by_cases hj : k = j
  · subst hj
    have ea : a = p := Option.some.inj (g1.symm.trans h1)
    rw [List.getElem?_set_self (get_lt h2)] at g2
    cases g2
    rw [ea, upd_same]
    exact ⟨⟨vs, rfl, r⟩, fun _ _ => nf⟩
  · rw [List.getElem?_set_ne hj] at g2
    have hn : a ≠ p := fun e => hj (nodup_get M.nd h1 (e ▸ g1))
    rw [upd_ne hn]
    exact M.cell j a c g1 g2
theorem Mem.getC (M : Mem K mg m μ H) {k : Nat} {p : Addr} {l : List D} (h1 : m.al[k]? = some p) (h2 : μ[k]? = some (.lst l)) : ∃ vs, H p = some (.lst vs) ∧ IsA K mg m.fr l vs := (M.cell k p _ h1 h2).1
/-- a cell is settled -/
theorem Mem.freeze (M : Mem K mg m μ H) {k : Nat} {p : Addr} {l : List D} (h1 : m.al[k]? = some p) (h2 : μ[k]? = some (.lst l)) :
    ∃ m', Ext m m' ∧ Mem K mg m' (μ.set k .dead) H ∧ Is K mg m'.fr (.lst l) (.ref p) := by
  obtain ⟨vs, e, r⟩ := M.getC h1 h2
  have nf := (M.cell k p _ h1 h2).2 l rfl
  have sm := same_add nf (.lst vs)
  refine ⟨m.add p (.lst vs), ext_add nf _, ⟨fun b x e2 => ?_, M.fix, fun b x e2 => ?_, by rw [List.length_set]; exact M.len, M.nd, fun j a c g1 g2 => ?_, M.tab, ntb_upd M.ntb (fun _ z => by cases z), M.ntx⟩, .lst upd_same (r.mono sm)⟩
  · have e2 : upd m.fr p (.lst vs) b = some x := e2
    by_cases hb : b = p
    · subst hb; rw [upd_same] at e2; rw [← e2]; exact e
    · rw [upd_ne hb] at e2; exact M.sub _ _ e2
  · obtain ⟨q1, q2⟩ := M.dis b x e2
    exact ⟨by show upd m.fr p (.lst vs) b = none; rw [upd_ne (fun z => q2 (by rw [z]; exact List.mem_of_getElem? h1))]; exact q1, q2⟩
  · by_cases hj : k = j
    · subst hj
      have ea : a = p := Option.some.inj (g1.symm.trans h1)
      rw [List.getElem?_set_self (get_lt h2)] at g2
      cases g2
      rw [ea, e]
      exact ⟨⟨_, rfl, fun _ z => (by cases z)⟩, fun l z => (by cases z)⟩
    · rw [List.getElem?_set_ne hj] at g2
      have hn : a ≠ p := fun e => hj (nodup_get M.nd h1 (e ▸ g1))
      obtain ⟨q1, q2⟩ := M.cell j a c g1 g2
      exact ⟨q1.mono sm, fun l e => by show upd m.fr p (.lst vs) a = none; rw [upd_ne hn]; exact q2 l e⟩
/-- one more object is held fast -/
abbrev Mc.hold (m : Mc) (p : Addr) (o : HO) : Mc := { m with fx := upd m.fx p o }
theorem Mem.hold (M : Mem K mg m μ H) {p : Addr} {o : HO} (h : H p = some o) (nf : m.fr p = none) (na : p ∉ m.al) (ho : ∀ ps, o ≠ .tbl ps := by intro _ z; cases z) : Mem K mg (m.hold p o) μ H :=
  ⟨M.sub, fun b x e => by
    have e : upd m.fx p o b = some x := e
    by_cases hb : b = p
    · subst hb; rw [upd_same] at e; rw [h, ← e]
    · rw [upd_ne hb] at e; exact M.fix _ _ e, fun b x e => by
    have e : upd m.fx p o b = some x := e
    by_cases hb : b = p
    · subst hb; exact ⟨nf, na⟩
    · rw [upd_ne hb] at e; exact M.dis _ _ e, M.len, M.nd, M.cell, M.tab, M.ntb, ntb_upd M.ntx ho⟩
/-- an object that is neither settled nor a cell nor held is laid or changed -/
theorem Mem.side (M : Mem K mg m μ H) {p : Addr} {o : HO} (nf : m.fr p = none) (na : p ∉ m.al) (nx : m.fx p = none) (hp : Loose (H p)) : Mem K mg m μ (upd H p o) :=
  ⟨fun b x e => by rw [upd_ne (ne_of_none e nf)]; exact M.sub _ _ e, fun b x e => by rw [upd_ne (ne_of_none e nx)]; exact M.fix _ _ e, M.dis, M.len, M.nd, fun k a c h1 h2 => by
    rw [upd_ne (fun z => na (by rw [← z]; exact List.mem_of_getElem? h1))]; exact M.cell k a c h1 h2, tabs_upd M.tab hp, M.ntb, M.ntx⟩
/-- .. is settled -/
theorem Mem.settle (M : Mem K mg m μ H) {p : Addr} {o : HO} (h : H p = some o) (nf : m.fr p = none) (na : p ∉ m.al) (nx : m.fx p = none) (ho : ∀ ps, o ≠ .tbl ps := by intro _ z; cases z) : Mem K mg (m.add p o) μ H := by
  have sm := same_add nf o
  refine ⟨fun b x e => ?_, M.fix, fun b x e => ?_, M.len, M.nd, fun k a c h1 h2 => ?_, M.tab, ntb_upd M.ntb ho, M.ntx⟩
  · have e : upd m.fr p o b = some x := e
    by_cases hb : b = p
    · subst hb; rw [upd_same] at e; rw [h, ← e]
    · rw [upd_ne hb] at e; exact M.sub _ _ e
  · obtain ⟨q1, q2⟩ := M.dis b x e
    exact ⟨by show upd m.fr p o b = none; rw [upd_ne (ne_of_none e nx)]; exact q1, q2⟩
  · obtain ⟨q1, q2⟩ := M.cell k a c h1 h2
    exact ⟨q1.mono sm, fun l e => by
      show upd m.fr p o a = none
      rw [upd_ne (fun z => na (by rw [← z]; exact List.mem_of_getElem? h1))]; exact q2 l e⟩

/-- the tables have grown -/
theorem Mem.grown (M : Mem K mg m μ H) (e : LamX.ExtN H H') (t : LamX.Tabs (tabsK K) H') : Mem K mg m μ H' :=
  ⟨fun b x z => e b x (M.sub b x z) fun ps w => M.ntb b ps (by rw [z, w]), fun b x z => e b x (M.fix b x z) fun ps w => M.ntx b ps (by rw [z, w]), M.dis, M.len, M.nd, fun k a c h1 h2 => by
    obtain ⟨q1, q2⟩ := M.cell k a c h1 h2
    refine ⟨?_, q2⟩
    cases c with
    | lst l => obtain ⟨vs, z, r⟩ := q1; exact ⟨vs, e a _ z (fun ps w => by cases w), r⟩
    | dead => obtain ⟨u, z, w⟩ := q1; exact ⟨u, e a _ z w, w⟩, t, M.ntb, M.ntx⟩

/-! ### the wish under a wider memory -/
theorem wpE.mono {o : Out S} {Q : V → Hp → Prop} {E : XK} (e : Ext m m1) (h : wpE K mg m o Q E) : wpE K mg m1 o Q E := by
  cases o with
  | stk => exact h
  | ok s μ => exact fun v H' m' x => h v H' m' (e.trans x)
  | exc x μ => exact fun c d H' m' x => h c d H' m' (e.trans x)
theorem wpA.mono {o : Out (List S)} {Q : List V → Hp → Prop} {E : XK} (e : Ext m m1) (h : wpA K mg m o Q E) : wpA K mg m1 o Q E := by
  cases o with
  | stk => exact h
  | ok s μ => exact fun v H' m' x => h v H' m' (e.trans x)
  | exc x μ => exact fun c d H' m' x => h c d H' m' (e.trans x)
theorem wpB.mono {o : Out Bool} {Q : Bool → Hp → Prop} {E : XK} (e : Ext m m1) (h : wpB K mg m o Q E) : wpB K mg m1 o Q E := by
  cases o with
  | stk => exact h
  | ok s μ => exact fun H' m' x => h H' m' (e.trans x)
  | exc x μ => exact fun c d H' m' x => h c d H' m' (e.trans x)
end
end GF

set_option maxHeartbeats 2000000
/-! Judgements: a piece of syntax and its denotation over data; expressions. -/
namespace GF
open PySem PySem.Spec PyProof.Rows L2

abbrev FE := Rho → Mu → Out S
abbrev FB := Rho → Mu → Out Bool
abbrev FA := Rho → Mu → Out (List S)
abbrev FI := Rho → Mu → Out (List D)
inductive SO where
  | stk
  | nx (ρ : Rho) (μ : Mu)
  | rt (s : S) (μ : Mu)
  | bk (ρ : Rho) (μ : Mu)
  | ct (ρ : Rho) (μ : Mu)
  | exc (x : Exn) (ρ : Rho) (μ : Mu)
abbrev FS := Rho → Mu → SO

section
variable (K : PySem.W.Frag) (mg : Str → Option Value)
/-- an iterator that yields the items while what is settled stays -/
structure Walks (J : It) (items : List D) (F : Hp) : Prop where
  go : ∀ i H F2, Same F F2 → Same F2 H → i < items.length → J.go i H
  stop : ∀ i H F2, Same F F2 → Same F2 H → items.length ≤ i → J.stop i H
  yld : ∀ i H m2 μ x H' d, Same F m2.fr → Mem K mg m2 μ H → items[i]? = some d → J.yld i H x H' → ∃ m3, Ext m2 m3 ∧ Mem K mg m3 μ H' ∧ Is K mg m3.fr d x
def wpI (m : Mc) (o : Out (List D)) (R : It → Hp → Prop) (E : XK) : Prop := match o with
  | .stk => False
  | .ok l μ => ∀ J H' m', Ext m m' → Mem K mg m' μ H' → Walks K mg J l m'.fr → R J H'
  | .exc x μ => ∀ cls d H' m', Ext m m' → Mem K mg m' μ H' → ExnIs K mg m'.fr H' x cls d → E cls d H'
def wpS (m : Mc) (o : SO) (D : Ends) (W : WX) : Prop := match o with
  | .stk => False
  | .nx ρ μ => ∀ σ' H' m', Ext m m' → Mem K mg m' μ H' → RhoIs K mg m' ρ σ' → D.nx σ' H'
  | .rt s μ => ∀ v H' m', Ext m m' → Mem K mg m' μ H' → SIs K mg m' s v → D.rt v H'
  | .bk ρ μ => ∀ σ' H' m', Ext m m' → Mem K mg m' μ H' → RhoIs K mg m' ρ σ' → D.bk σ' H'
  | .ct ρ μ => ∀ σ' H' m', Ext m m' → Mem K mg m' μ H' → RhoIs K mg m' ρ σ' → D.ct σ' H'
  | .exc x ρ μ => ∀ cls d σ' H' m', Ext m m' → Mem K mg m' μ H' → RhoIs K mg m' ρ σ' → ExnIs K mg m'.fr H' x cls d → W cls d σ' H'
theorem wpS.mono {K : PySem.W.Frag} {mg : Str → Option Value} {m m1 : Mc} {o : SO} {D : Ends} {W : WX} (e : Ext m m1) (h : wpS K mg m o D W) : wpS K mg m1 o D W := by
  cases o with
  | stk => exact h
  | nx ρ μ => exact fun v H' m' x => h v H' m' (e.trans x)
  | rt s μ => exact fun v H' m' x => h v H' m' (e.trans x)
  | bk ρ μ => exact fun v H' m' x => h v H' m' (e.trans x)
  | ct ρ μ => exact fun v H' m' x => h v H' m' (e.trans x)
  | exc x ρ μ => exact fun c d s H' m' x => h c d s H' m' (e.trans x)
end

def Agree (js : List Nat) (σ σ' : L2.St) : Prop := σ'.length = σ.length ∧ ∀ i, i ∉ js → σ'[i]? = σ[i]?
section
variable (K : PySem.W.Frag) (mg : Str → Option Value) (W : WX)
/-- the denotations' own readings -/
def tE (f : FE) : TE := fun σ H Q => ∃ m ρ μ, Mem K mg m μ H ∧ RhoIs K mg m ρ σ ∧ wpE K mg m (f ρ μ) Q (fun c d H' => W c d σ H')
def tT (f : FB) : TT := fun σ H Q => ∃ m ρ μ, Mem K mg m μ H ∧ RhoIs K mg m ρ σ ∧ wpB K mg m (f ρ μ) Q (fun c d H' => W c d σ H')
def tAr (f : FA) : TA := fun σ H Q => ∃ m ρ μ, Mem K mg m μ H ∧ RhoIs K mg m ρ σ ∧ wpA K mg m (f ρ μ) Q (fun c d H' => W c d σ H')
def tI (f : FI) : TI := fun σ H R => ∃ m ρ μ, Mem K mg m μ H ∧ RhoIs K mg m ρ σ ∧ wpI K mg m (f ρ μ) R (fun c d H' => W c d σ H')
def tS (f : FS) : TS := fun D σ H => ∃ m ρ μ, Mem K mg m μ H ∧ RhoIs K mg m ρ σ ∧ wpS K mg m (f ρ μ) D W
def tG (js : List Nat) (t : D → Rho → Option Rho) : TG := fun v σ H Q => ∃ m μ ρ d ρ', Mem K mg m μ H ∧ RhoIs K mg m ρ σ ∧ Is K mg m.fr d v ∧ t d ρ = some ρ' ∧ ∀ σ', RhoIs K mg m ρ' σ' → Agree js σ σ' → Q σ' H
def tGs (js : List Nat) (t : List D → Rho → Option Rho) : TGs := fun vs σ H Q => ∃ m μ ρ ds ρ', Mem K mg m μ H ∧ RhoIs K mg m ρ σ ∧ IsA K mg m.fr ds vs ∧ t ds ρ = some ρ' ∧ ∀ σ', RhoIs K mg m ρ' σ' → Agree js σ σ' → Q σ' H
end
section
variable (X : Cx) (W : WX)
structure DE (e : Expr) (f : FE) : Prop where
  pe : PE X e (tE X.K X.mg W f)
structure DT (e : Expr) (f : FB) : Prop where
  pe : PT X e (tT X.K X.mg W f)
structure DW (e : Expr) (f : FB) : Prop where
  pe : PW X e (tT X.K X.mg W f)
structure DA (es : List Expr) (f : FA) : Prop where
  pe : PA X es (tAr X.K X.mg W f)
structure DI (tg e : Expr) (f : FI) : Prop where
  pe : PI X tg e (tI X.K X.mg W f)
structure DS (st : Stmt) (f : FS) : Prop where
  pe : PS X st (tS X.K X.mg W f)
structure DSs (sts : List Stmt) (f : FS) : Prop where
  pe : PSs X sts (tS X.K X.mg W f)
/-- a target: where an item goes -/
structure DG (js : List Nat) (tg : Expr) (t : D → Rho → Option Rho) : Prop where
  pe : PG X tg (tG X.K X.mg js t)
structure DGs (js : List Nat) (tgs : List Expr) (t : List D → Rho → Option Rho) : Prop where
  pe : PGs X tgs (tGs X.K X.mg js t)
end
section
variable {X : Cx} {W : WX} {e tg : Expr} {es : List Expr} {st : Stmt} {sts : List Stmt} {js : List Nat}
theorem DE.ex {f : FE} (h : DE X W e f) : ∃ t : TE, PE X e t ∧ ∀ σ H m ρ μ Q, Mem X.K X.mg m μ H → RhoIs X.K X.mg m ρ σ → wpE X.K X.mg m (f ρ μ) Q (fun c d H' => W c d σ H') → t σ H Q := ⟨_, h.pe, fun _ _ m ρ μ _ M r w => ⟨m, ρ, μ, M, r, w⟩⟩
theorem DE.in {f : FE} (h : ∃ t : TE, PE X e t ∧ ∀ σ H m ρ μ Q, Mem X.K X.mg m μ H → RhoIs X.K X.mg m ρ σ → wpE X.K X.mg m (f ρ μ) Q (fun c d H' => W c d σ H') → t σ H Q) : DE X W e f := by
  obtain ⟨t, p, q⟩ := h
  exact ⟨⟨fun pins s σ H Q I ⟨m, ρ, μ, M, r, w⟩ => p.run pins s σ H Q I (q σ H m ρ μ Q M r w)⟩⟩
theorem DT.ex {f : FB} (h : DT X W e f) : ∃ t : TT, PT X e t ∧ ∀ σ H m ρ μ Q, Mem X.K X.mg m μ H → RhoIs X.K X.mg m ρ σ → wpB X.K X.mg m (f ρ μ) Q (fun c d H' => W c d σ H') → t σ H Q := ⟨_, h.pe, fun _ _ m ρ μ _ M r w => ⟨m, ρ, μ, M, r, w⟩⟩
theorem DT.in {f : FB} (h : ∃ t : TT, PT X e t ∧ ∀ σ H m ρ μ Q, Mem X.K X.mg m μ H → RhoIs X.K X.mg m ρ σ → wpB X.K X.mg m (f ρ μ) Q (fun c d H' => W c d σ H') → t σ H Q) : DT X W e f := by
  obtain ⟨t, p, q⟩ := h
  exact ⟨⟨fun pins s σ H Q I ⟨m, ρ, μ, M, r, w⟩ => p.run pins s σ H Q I (q σ H m ρ μ Q M r w)⟩⟩
theorem DW.ex {f : FB} (h : DW X W e f) : ∃ t : TT, PW X e t ∧ ∀ σ H m ρ μ Q, Mem X.K X.mg m μ H → RhoIs X.K X.mg m ρ σ → wpB X.K X.mg m (f ρ μ) Q (fun c d H' => W c d σ H') → t σ H Q := ⟨_, h.pe, fun _ _ m ρ μ _ M r w => ⟨m, ρ, μ, M, r, w⟩⟩
theorem DW.in {f : FB} (h : ∃ t : TT, PW X e t ∧ ∀ σ H m ρ μ Q, Mem X.K X.mg m μ H → RhoIs X.K X.mg m ρ σ → wpB X.K X.mg m (f ρ μ) Q (fun c d H' => W c d σ H') → t σ H Q) : DW X W e f := by
  obtain ⟨t, p, q⟩ := h
  exact ⟨⟨fun wh pins s σ H Q I ⟨m, ρ, μ, M, r, w⟩ => p.run wh pins s σ H Q I (q σ H m ρ μ Q M r w)⟩⟩
theorem DA.ex {f : FA} (h : DA X W es f) : ∃ t : TA, PA X es t ∧ ∀ σ H m ρ μ Q, Mem X.K X.mg m μ H → RhoIs X.K X.mg m ρ σ → wpA X.K X.mg m (f ρ μ) Q (fun c d H' => W c d σ H') → t σ H Q := ⟨_, h.pe, fun _ _ m ρ μ _ M r w => ⟨m, ρ, μ, M, r, w⟩⟩
theorem DA.in {f : FA} (h : ∃ t : TA, PA X es t ∧ ∀ σ H m ρ μ Q, Mem X.K X.mg m μ H → RhoIs X.K X.mg m ρ σ → wpA X.K X.mg m (f ρ μ) Q (fun c d H' => W c d σ H') → t σ H Q) : DA X W es f := by
  obtain ⟨t, p, q⟩ := h
  exact ⟨⟨fun pos pins s σ H Q I ⟨m, ρ, μ, M, r, w⟩ => p.run pos pins s σ H Q I (q σ H m ρ μ Q M r w)⟩⟩
theorem DI.ex {f : FI} (h : DI X W tg e f) : ∃ t : TI, PI X tg e t ∧ ∀ σ H m ρ μ R, Mem X.K X.mg m μ H → RhoIs X.K X.mg m ρ σ → wpI X.K X.mg m (f ρ μ) R (fun c d H' => W c d σ H') → t σ H R := ⟨_, h.pe, fun _ _ m ρ μ _ M r w => ⟨m, ρ, μ, M, r, w⟩⟩
theorem DI.in {f : FI} (h : ∃ t : TI, PI X tg e t ∧ ∀ σ H m ρ μ R, Mem X.K X.mg m μ H → RhoIs X.K X.mg m ρ σ → wpI X.K X.mg m (f ρ μ) R (fun c d H' => W c d σ H') → t σ H R) : DI X W tg e f := by
  obtain ⟨t, p, q⟩ := h
  exact ⟨⟨fun pins s σ H Q I ⟨m, ρ, μ, M, r, w⟩ => p.run pins s σ H Q I (q σ H m ρ μ Q M r w)⟩⟩
theorem DS.ex {f : FS} (h : DS X W st f) : ∃ t : TS, PS X st t ∧ ∀ σ H m ρ μ D, Mem X.K X.mg m μ H → RhoIs X.K X.mg m ρ σ → wpS X.K X.mg m (f ρ μ) D W → t D σ H := ⟨_, h.pe, fun _ _ m ρ μ _ M r w => ⟨m, ρ, μ, M, r, w⟩⟩
theorem DS.in {f : FS} (h : ∃ t : TS, PS X st t ∧ ∀ σ H m ρ μ D, Mem X.K X.mg m μ H → RhoIs X.K X.mg m ρ σ → wpS X.K X.mg m (f ρ μ) D W → t D σ H) : DS X W st f := by
  obtain ⟨t, p, q⟩ := h
  exact ⟨⟨fun pins s σ H D I ⟨m, ρ, μ, M, r, w⟩ => p.run pins s σ H D I (q σ H m ρ μ D M r w)⟩⟩
theorem DSs.ex {f : FS} (h : DSs X W sts f) : ∃ t : TS, PSs X sts t ∧ ∀ σ H m ρ μ D, Mem X.K X.mg m μ H → RhoIs X.K X.mg m ρ σ → wpS X.K X.mg m (f ρ μ) D W → t D σ H := ⟨_, h.pe, fun _ _ m ρ μ _ M r w => ⟨m, ρ, μ, M, r, w⟩⟩
theorem DSs.in {f : FS} (h : ∃ t : TS, PSs X sts t ∧ ∀ σ H m ρ μ D, Mem X.K X.mg m μ H → RhoIs X.K X.mg m ρ σ → wpS X.K X.mg m (f ρ μ) D W → t D σ H) : DSs X W sts f := by
  obtain ⟨t, p, q⟩ := h
  exact ⟨⟨fun pins s σ H D I ⟨m, ρ, μ, M, r, w⟩ => p.run pins s σ H D I (q σ H m ρ μ D M r w)⟩⟩
end

/-! ### what can be read off a thing now -/
section
variable (K : PySem.W.Frag) (mg : Str → Option Value)
inductive Vw (F H : Hp) : D → V → Prop
  | of {d : D} {v : V} : Is K mg F d v → Vw F H d v
  | cell {a : Addr} {vs : List V} {l : List D} : H a = some (.lst vs) → IsA K mg F l vs → Vw F H (.lst l) (.ref a)
end
def isNon : D → Bool
  | .non => true
  | _ => false
def view : S → Mu → Option D
  | .d d, _ => some d
  | .c k, μ => match μ[k]? with
    | some (.lst l) => some (.lst l)
    | _ => none
section
variable {K : PySem.W.Frag} {mg : Str → Option Value} {m : Mc} {F H : Hp} {μ : Mu}
theorem view_ok {s : S} {d : D} {v : V} (M : Mem K mg m μ H) (h : view s μ = some d) (r : SIs K mg m s v) : Vw K mg m.fr H d v := by
  cases s with
  | d d' => cases h; exact .of r
  | c k =>
    obtain ⟨a, h1, rfl⟩ := r
    have h : (match μ[k]? with | some (.lst l) => some (D.lst l) | _ => none) = some d := h
    split at h
    · rename_i l hl
      cases h
      obtain ⟨vs, e, q⟩ := M.getC h1 hl
      exact .cell e q
    · cases h
theorem Vw.int {i : Int} {v : V} (h : Vw K mg F H (.int i) v) : v = .int i := by cases h with | of h => cases h; rfl
theorem Vw.bl {i : Bool} {v : V} (h : Vw K mg F H (.bl i) v) : v = .bl i := by cases h with | of h => cases h; rfl
theorem Vw.str {i : Str} {v : V} (h : Vw K mg F H (.str i) v) : v = .str i := by cases h with | of h => cases h; rfl
theorem Vw.non {v : V} (h : Vw K mg F H .non v) : v = .non := by cases h with | of h => cases h; rfl
theorem Vw.lst {l : List D} {v : V} (s : Same F H) (h : Vw K mg F H (.lst l) v) : ∃ a vs, v = .ref a ∧ H a = some (.lst vs) ∧ IsA K mg F l vs := by
  cases h with
  | of h => cases h with | lst h q => exact ⟨_, _, rfl, s _ _ h, q⟩
  | cell h q => exact ⟨_, _, rfl, h, q⟩
theorem Vw.tup {l : List D} {v : V} (s : Same F H) (h : Vw K mg F H (.tup l) v) : ∃ a vs, v = .ref a ∧ SqT K F a vs ∧ SqT K H a vs ∧ IsA K mg F l vs := by
  cases h with
  | of h => cases h with | tup h q => exact ⟨_, _, rfl, h, Same.sqt s h, q⟩
theorem Vw.scr {l : List Int} {v : V} (s : Same F H) (h : Vw K mg F H (.scr l) v) : ∃ a, v = .ref a ∧ SqL K H a (l.map V.int) := by
  cases h with
  | of h => cases h with | scr h => exact ⟨_, rfl, s.seq h⟩
theorem Vw.is {d : D} {v : V} (s : Same F H) (h : Vw K mg F H d v) : Is K mg H d v := by
  cases h with
  | of h => exact h.mono s
  | cell h q => exact .lst h (q.mono s)
theorem Vw.nn {d : D} {v : V} (h : Vw K mg F H d v) : decide (v = .non) = isNon d := by
  cases h with
  | of h => cases h <;> first | rfl | exact decide_eq_false (fun z => by cases z)
  | cell _ _ => exact decide_eq_false (fun z => by cases z)
end

/-! ### what an operation leaves: a value, all as it was; or a new object that is settled at once -/
section
variable (K : PySem.W.Frag) (mg : Str → Option Value)
/-- d at v is handed on in H', with F settled -/
def Gives (F H : Hp) (d : D) (Q : V → Hp → Prop) : Prop :=
  (∀ v, Is K mg F d v → Q v H) ∧ ∀ p o v, H p = none → Is K mg (upd F p o) d v → (∀ ps, o ≠ .tbl ps) → Q v (upd H p o)
end
section
variable {K : PySem.W.Frag} {mg : Str → Option Value} {m : Mc} {F H : Hp} {μ : Mu}
theorem gives_of {d : D} {Q : V → Hp → Prop} {E : XK} (M : Mem K mg m μ H) (h : wpE K mg m (.ok (.d d) μ) Q E) : Gives K mg m.fr H d Q :=
  ⟨fun v r => h v H m .refl M r, fun p o v hp r ho => h v _ (m.add p o) (ext_add (M.free hp) o) (M.new hp o ho) r⟩
theorem Gives.new {d : D} {Q : V → Hp → Prop} (G : Gives K mg F H d Q) {p : Addr} {o : HO} {v : V} (hp : H p = none) (r : Is K mg (upd F p o) d v) (ho : ∀ ps, o ≠ .tbl ps := by intro _ z; cases z) : Q v (upd H p o) := G.2 p o v hp r ho
end

/-! ### two-place operations -/
def op2 (g : D → D → Option D) (a b : S) (μ : Mu) : Out S := match view a μ, view b μ with
  | some x, some y => (match g x y with
    | some z => .ok (.d z) μ
    | none => .stk)
  | _, _ => .stk
/-- the rule r is met where g has an answer -/
def Snd2 (K : PySem.W.Frag) (mg : Str → Option Value) (r : R2) (g : D → D → Option D) : Prop :=
  ∀ F H x y a b z Q, Same F H → Vw K mg F H a x → Vw K mg F H b y → g a b = some z → Gives K mg F H z Q → r x y H Q
def eOp (g : D → D → Option D) (f1 f2 : FE) : FE := fun ρ μ => (f1 ρ μ).bind fun a μ1 => (f2 ρ μ1).bind fun b μ2 => op2 g a b μ2
theorem snd2_at {K : PySem.W.Frag} {mg : Str → Option Value} {r : R2} {g : D → D → Option D} (hs : Snd2 K mg r g) {m : Mc} {μ : Mu} {H : Hp} {a b : S} {x y : V} {Q : V → Hp → Prop} {E : XK} (M : Mem K mg m μ H) (ra : SIs K mg m a x) (rb : SIs K mg m b y)
    (h : wpE K mg m (op2 g a b μ) Q E) : r x y H Q := by
  unfold op2 at h
  split at h
  · rename_i u w h1 h2
    split at h
    · rename_i z hz
      exact hs m.fr H x y u w z Q M.sub (view_ok M h1 ra) (view_ok M h2 rb) hz (gives_of M h)
    · exact h.elim
  · exact h.elim
section
variable {X : Cx} {W : WX} {a b c : Expr} {f f1 f2 f3 : FE} {pos : Pos}
/-- two parts, one behind the other -/
theorem de_bin {ta tb : TE} (ha : ∀ σ H m ρ μ Q, Mem X.K X.mg m μ H → RhoIs X.K X.mg m ρ σ → wpE X.K X.mg m (f1 ρ μ) Q (fun c d H' => W c d σ H') → ta σ H Q)
    (hb : ∀ σ H m ρ μ Q, Mem X.K X.mg m μ H → RhoIs X.K X.mg m ρ σ → wpE X.K X.mg m (f2 ρ μ) Q (fun c d H' => W c d σ H') → tb σ H Q)
    {σ : L2.St} {H : Hp} {m : Mc} {ρ : Rho} {μ : Mu} {R : V → V → Hp → Prop} {k : S → S → Mu → Out S} {Q : V → Hp → Prop} (M : Mem X.K X.mg m μ H) (r : RhoIs X.K X.mg m ρ σ)
    (h : wpE X.K X.mg m ((f1 ρ μ).bind fun a μ1 => (f2 ρ μ1).bind fun b μ2 => k a b μ2) Q (fun c d H' => W c d σ H'))
    (hk : ∀ x y a b μ2 H2 m2, Ext m m2 → Mem X.K X.mg m2 μ2 H2 → SIs X.K X.mg m2 a x → SIs X.K X.mg m2 b y → wpE X.K X.mg m2 (k a b μ2) Q (fun c d H' => W c d σ H') → R x y H2) :
    ta σ H fun x H1 => tb σ H1 fun y H2 => R x y H2 := by
  refine ha σ H m ρ μ _ M r ?_
  cases e : f1 ρ μ with
  | stk => rw [e] at h; exact h
  | exc x μ' => rw [e] at h; exact h
  | ok s μ1 =>
    rw [e] at h
    intro x H1 m1 e1 M1 r1
    refine hb σ H1 m1 ρ μ1 _ M1 (r.mono e1) ?_
    have h : wpE X.K X.mg m ((f2 ρ μ1).bind fun b μ2 => k s b μ2) Q _ := h
    have h := h.mono e1
    cases e' : f2 ρ μ1 with
    | stk => rw [e'] at h; exact h
    | exc x μ' => rw [e'] at h; exact h
    | ok s2 μ2 =>
      rw [e'] at h
      intro y H2 m2 e2 M2 r2
      exact hk x y s s2 μ2 H2 m2 (e1.trans e2) M2 (r1.mono e2) r2 (wpE.mono e2 h)
theorem de_op {op : Operator} {r : R2} {g : D → D → Option D} (ho : OpR X (binaryOp op) r) (hs : Snd2 X.K X.mg r g) (ha : DE X W a f1) (hb : DE X W b f2) : DE X W (.BinOp a op b pos) (eOp g f1 f2) := by
  obtain ⟨ta, pa, qa⟩ := ha.ex
  obtain ⟨tb, pb, qb⟩ := hb.ex
  refine .in ⟨_, pe_op ho pa pb, fun σ H m ρ μ Q M rr h => ?_⟩
  exact de_bin (R := fun x y H2 => r x y H2 Q) qa qb M rr h fun x y a b μ2 H2 m2 _ M2 r1 r2 h2 => snd2_at hs M2 r1 r2 h2
theorem de_cmp {op : CmpOp} {r : R2} {g : D → D → Option D} (ho : OpR X (compareOp op) r) (hs : Snd2 X.K X.mg r g) (ha : DE X W a f1) (hb : DE X W b f2) (hm : behindInMarks op b = false) : DE X W (.Compare a [op] [b] pos) (eOp g f1 f2) := by
  obtain ⟨ta, pa, qa⟩ := ha.ex
  obtain ⟨tb, pb, qb⟩ := hb.ex
  refine .in ⟨_, pe_cmpR ho pa pb hm, fun σ H m ρ μ Q M rr h => ?_⟩
  exact de_bin (R := fun x y H2 => r x y H2 Q) qa qb M rr h fun x y a b μ2 H2 m2 _ M2 r1 r2 h2 => snd2_at hs M2 r1 r2 h2
theorem de_ix {r : R2} {g : D → D → Option D} (ho : IxR X r) (hs : Snd2 X.K X.mg r g) (ha : DE X W a f1) (hb : DE X W b f2) (hp : PlainIx b) : DE X W (.Subscript a b pos) (eOp g f1 f2) := by
  obtain ⟨ta, pa, qa⟩ := ha.ex
  obtain ⟨tb, pb, qb⟩ := hb.ex
  refine .in ⟨_, pe_ix ho pa pb hp, fun σ H m ρ μ Q M rr h => ?_⟩
  exact de_bin (R := fun x y H2 => r x y H2 Q) qa qb M rr h fun x y a b μ2 H2 m2 _ M2 r1 r2 h2 => snd2_at hs M2 r1 r2 h2
/-- a value that is a truth, as a test -/
def asB (s : S) (μ : Mu) : Out Bool := match s with
  | .d (.bl b) => .ok b μ
  | _ => .stk
def bT (f : FE) : FB := fun ρ μ => (f ρ μ).bind asB
theorem asB_wp {K : PySem.W.Frag} {mg : Str → Option Value} {m : Mc} {o : Out S} {Q : Bool → Hp → Prop} {E : XK} (h : wpB K mg m (o.bind asB) Q E) : wpE K mg m o (fun v H' => ∃ b, v = .bl b ∧ Q b H') E := by
  cases o with
  | stk => exact h
  | exc x μ => exact h
  | ok s μ =>
    intro v H' m' e M r
    have h : wpB K mg m (asB s μ) Q E := h
    cases s with
    | c k => exact h.elim
    | d d =>
      cases d with
      | bl b =>
        cases (show Is K mg m'.fr (.bl b) v from r)
        exact ⟨b, rfl, h H' m' e M⟩
      | _ => exact h.elim
theorem dt_val (ha : DE X W a f) (he : ∀ whole, isTrue a X.env whole = (do let v ← whole; standAt a.pos; holding [v] (truthy v)) := by intro _; rfl) : DT X W a (bT f) := by
  obtain ⟨ta, pa, qa⟩ := ha.ex
  exact .in ⟨_, pt_val pa he, fun σ H m ρ μ Q M rr h => qa σ H m ρ μ _ M rr (asB_wp h)⟩
theorem dt_cmp {op : CmpOp} {r : R2} {g : D → D → Option D} (ho : OpR X (compareOp op) r) (hs : Snd2 X.K X.mg r g) (ha : DE X W a f1) (hb : DE X W b f2) (hm : behindInMarks op b = false) : DT X W (.Compare a [op] [b] pos) (bT (eOp g f1 f2)) := by
  obtain ⟨ta, pa, qa⟩ := ha.ex
  obtain ⟨tb, pb, qb⟩ := hb.ex
  refine .in ⟨_, pt_cmpR ho pa pb hm, fun σ H m ρ μ Q M rr h => ?_⟩
  exact de_bin (R := fun x y H2 => r x y H2 fun v H' => ∃ b, v = .bl b ∧ Q b H') qa qb M rr (asB_wp h) fun x y a b μ2 H2 m2 _ M2 r1 r2 h2 => snd2_at hs M2 r1 r2 h2
/-- a op b op' c -/
def eChain (g g' : D → D → Option D) (f1 f2 f3 : FE) : FE := fun ρ μ => (f1 ρ μ).bind fun a μ1 => (f2 ρ μ1).bind fun b μ2 => (op2 g a b μ2).bind fun z μ3 => (asB z μ3).bind fun k μ3 =>
  if k = true then (f3 ρ μ3).bind fun c μ4 => op2 g' b c μ4 else .ok (.d (.bl false)) μ3
theorem chain_wp {r r' : R2} {g g' : D → D → Option D} (hs : Snd2 X.K X.mg r g) (hs' : Snd2 X.K X.mg r' g') {ta tb tc : TE}
    (qa : ∀ σ H m ρ μ Q, Mem X.K X.mg m μ H → RhoIs X.K X.mg m ρ σ → wpE X.K X.mg m (f1 ρ μ) Q (fun c d H' => W c d σ H') → ta σ H Q)
    (qb : ∀ σ H m ρ μ Q, Mem X.K X.mg m μ H → RhoIs X.K X.mg m ρ σ → wpE X.K X.mg m (f2 ρ μ) Q (fun c d H' => W c d σ H') → tb σ H Q)
    (qc : ∀ σ H m ρ μ Q, Mem X.K X.mg m μ H → RhoIs X.K X.mg m ρ σ → wpE X.K X.mg m (f3 ρ μ) Q (fun c d H' => W c d σ H') → tc σ H Q)
    {σ : L2.St} {H : Hp} {m : Mc} {ρ : Rho} {μ : Mu} {Q : V → Hp → Prop} (M : Mem X.K X.mg m μ H) (rr : RhoIs X.K X.mg m ρ σ) (h : wpE X.K X.mg m (eChain g g' f1 f2 f3 ρ μ) Q (fun c d H' => W c d σ H')) : tChain r r' ta tb tc σ H Q := by
  refine de_bin (k := fun a b μ2 => (op2 g a b μ2).bind fun z μ3 => (asB z μ3).bind fun k μ3 => if k = true then (f3 ρ μ3).bind fun c μ4 => op2 g' b c μ4 else .ok (.d (.bl false)) μ3) qa qb M rr h fun x y a b μ2 H2 m2 e2 M2 r1 r2 h2 => ?_
  refine snd2_at hs (E := fun c d H' => W c d σ H') M2 r1 r2 ?_
  cases e : op2 g a b μ2 with
  | stk => rw [e] at h2; exact h2
  | exc x μ' => rw [e] at h2; exact h2
  | ok z μ3 =>
    rw [e] at h2
    intro v H3 m3 e3 M3 r3
    have h2 : wpE X.K X.mg m2 ((asB z μ3).bind fun k μ3 => if k = true then (f3 ρ μ3).bind fun c μ4 => op2 g' b c μ4 else .ok (.d (.bl false)) μ3) Q (fun c d H' => W c d σ H') := h2
    cases e' : asB z μ3 with
    | stk => rw [e'] at h2; exact h2.elim
    | exc x μ' => unfold asB at e'; split at e' <;> cases e'
    | ok k μ4 =>
      unfold asB at e'
      split at e'
      · rename_i b'
        cases e'
        cases (show Is X.K X.mg m3.fr (.bl k) v from r3)
        refine ⟨k, rfl, ?_⟩
        have h2 : wpE X.K X.mg m2 (if k = true then (f3 ρ μ3).bind fun c μ4 => op2 g' b c μ4 else .ok (.d (.bl false)) μ3) Q (fun c d H' => W c d σ H') := h2
        have h2 := h2.mono e3
        cases k with
        | false => exact iteF (h2 (.bl false) H3 m3 .refl M3 (.bl false))
        | true =>
          refine iteT (qc σ H3 m3 ρ μ3 _ M3 (rr.mono (e2.trans e3)) ?_)
          have h2 : wpE X.K X.mg m3 ((f3 ρ μ3).bind fun c μ4 => op2 g' b c μ4) Q (fun c d H' => W c d σ H') := h2
          cases e4 : f3 ρ μ3 with
          | stk => rw [e4] at h2; exact h2
          | exc x μ' => rw [e4] at h2; exact h2
          | ok s μ4 =>
            rw [e4] at h2
            intro w' H4 m4 e4 M4 r4
            exact snd2_at hs' M4 ((r2.mono e3).mono e4) r4 (h2.mono e4)
      · cases e'
theorem de_chain {op op' : CmpOp} {r r' : R2} {g g' : D → D → Option D} (ho : OpR X (compareOp op) r) (hs : Snd2 X.K X.mg r g) (ho' : OpR X (compareOp op') r') (hs' : Snd2 X.K X.mg r' g') (ha : DE X W a f1) (hb : DE X W b f2) (hc : DE X W c f3)
    (hm : lastMarks [op, op'] [b, c] = false := by with_unfolding_all rfl) : DE X W (.Compare a [op, op'] [b, c] pos) (eChain g g' f1 f2 f3) := by
  obtain ⟨ta, pa, qa⟩ := ha.ex
  obtain ⟨tb, pb, qb⟩ := hb.ex
  obtain ⟨tc, pc, qc⟩ := hc.ex
  exact .in ⟨_, pe_chain ho ho' pa pb pc hm, fun σ H m ρ μ Q M rr h => chain_wp hs hs' qa qb qc M rr h⟩
theorem dt_chain {op op' : CmpOp} {r r' : R2} {g g' : D → D → Option D} (ho : OpR X (compareOp op) r) (hs : Snd2 X.K X.mg r g) (ho' : OpR X (compareOp op') r') (hs' : Snd2 X.K X.mg r' g') (ha : DE X W a f1) (hb : DE X W b f2) (hc : DE X W c f3)
    (hm : lastMarks [op, op'] [b, c] = false := by with_unfolding_all rfl) : DT X W (.Compare a [op, op'] [b, c] pos) (bT (eChain g g' f1 f2 f3)) := by
  obtain ⟨ta, pa, qa⟩ := ha.ex
  obtain ⟨tb, pb, qb⟩ := hb.ex
  obtain ⟨tc, pc, qc⟩ := hc.ex
  exact .in ⟨_, pt_chain ho ho' pa pb pc hm, fun σ H m ρ μ Q M rr h => chain_wp hs hs' qa qb qc M rr (asB_wp h)⟩
end

/-! ### names and constants -/
def eV (i : Nat) : FE := fun ρ μ => match ρ[i]? with
  | some (some s) => .ok s μ
  | _ => .stk
def eC (d : D) : FE := fun _ μ => .ok (.d d) μ
section
variable {X : Cx} {W : WX} {a b c : Expr} {f f1 f2 f3 : FE} {fb fb2 : FB} {pos : Pos} {rest : List Expr}
theorem de_v (i : Nat) {x : Str} (hN : X.N[i]? = some x := by rfl) (hv : Vis X.env.scope x := by first | exact Or.inl rfl | exact Or.inr (Or.inl rfl) | exact Or.inr (Or.inr rfl)) (hd : (x == ("__debug__" : Str)) = false := by decide)
    (hcd : (x == ("__classdict__" : Str)) = false := by decide) : DE X W (.Name x pos) (eV i) := by
  refine .in ⟨_, pe_var hN hv hd hcd, fun σ H m ρ μ Q M rr h => ?_⟩
  unfold eV at h
  split at h
  · rename_i s hs
    obtain ⟨v, h1, h2⟩ := rr.has i s hs
    exact ⟨v, h1, h v H m .refl M h2⟩
  · exact h.elim
theorem de_int {i : Int} {j : Nat} : DE X W (.Constant (.int i) j pos) (eC (.int i)) := .in ⟨_, pe_int, fun σ H m ρ μ Q M rr h => h _ H m .refl M (.int i)⟩
theorem de_bl {i : Bool} {j : Nat} : DE X W (.Constant (.bool i) j pos) (eC (.bl i)) := .in ⟨_, pe_bl, fun σ H m ρ μ Q M rr h => h _ H m .refl M (.bl i)⟩
theorem de_non {j : Nat} : DE X W (.Constant .none j pos) (eC .non) := .in ⟨_, pe_non, fun σ H m ρ μ Q M rr h => h _ H m .refl M .non⟩
theorem de_str {x : Str} {j : Nat} : DE X W (.Constant (.str x) j pos) (eC (.str x)) := .in ⟨_, pe_str, fun σ H m ρ μ Q M rr h => h _ H m .refl M (.str x)⟩
/-- a name of the module -/
theorem de_glob {x : Str} {v : V} {u : Value} {d : D} (hm : X.mg x = some u) (r : RelV v u) (hi : ∀ F, Is X.K X.mg F d v) (hg : Gl X x := by rfl) (hd : (x == ("__debug__" : Str)) = false := by decide) : DE X W (.Name x pos) (eC d) :=
  .in ⟨_, pe_glob hg hm r hd, fun σ H m ρ μ Q M rr h => h _ H m .refl M (hi _)⟩
theorem de_fn {x : Str} {a : Addr} (hm : X.mg x = some (.ref a)) (hg : Gl X x := by rfl) (hd : (x == ("__debug__" : Str)) = false := by decide) : DE X W (.Name x pos) (eC (.fn x)) :=
  de_glob (v := .ref a) hm rfl (fun _ => .fn hm) hg hd

/-! ### tests -/
def bNot (f : FB) : FB := fun ρ μ => (f ρ μ).bind fun b μ => .ok (!b) μ
def bAnd (f g : FB) : FB := fun ρ μ => (f ρ μ).bind fun b μ1 => if b = true then g ρ μ1 else .ok false μ1
def bOr (f g : FB) : FB := fun ρ μ => (f ρ μ).bind fun b μ1 => if b = true then .ok true μ1 else g ρ μ1
theorem wpB_bind {K : PySem.W.Frag} {mg : Str → Option Value} {m : Mc} {o : Out Bool} {k : Bool → Mu → Out Bool} {Q Q' : Bool → Hp → Prop} {E : XK} (h : wpB K mg m (o.bind k) Q E)
    (hk : ∀ b μ H' m', Ext m m' → Mem K mg m' μ H' → wpB K mg m' (k b μ) Q E → Q' b H') : wpB K mg m o Q' E := by
  cases o with
  | stk => exact h
  | exc x μ => exact h
  | ok b μ => exact fun H' m' e M => hk b μ H' m' e M (wpB.mono (o := k b μ) e h)
theorem dt_not (ha : DT X W a fb) : DT X W (.UnaryOp .Not a pos) (bNot fb) := by
  obtain ⟨ta, pa, qa⟩ := ha.ex
  refine .in ⟨_, pt_not pa, fun σ H m ρ μ Q M rr h => qa σ H m ρ μ _ M rr (wpB_bind h fun b μ H' m' e M' h' => h' H' m' .refl M')⟩
theorem dw_and1 (ha : DT X W a fb) : DW X W (.BoolOp .And [a] pos) fb := by
  obtain ⟨ta, pa, qa⟩ := ha.ex
  exact .in ⟨_, pw_and1 pa, qa⟩
theorem dw_or1 (ha : DT X W a fb) : DW X W (.BoolOp .Or [a] pos) fb := by
  obtain ⟨ta, pa, qa⟩ := ha.ex
  exact .in ⟨_, pw_or1 pa, qa⟩
theorem dw_and (ha : DT X W a fb) (hb : DW X W (.BoolOp .And (b :: rest) pos) fb2) : DW X W (.BoolOp .And (a :: b :: rest) pos) (bAnd fb fb2) := by
  obtain ⟨ta, pa, qa⟩ := ha.ex
  obtain ⟨tb, pb, qb⟩ := hb.ex
  refine .in ⟨_, pw_and pa pb, fun σ H m ρ μ Q M rr h => qa σ H m ρ μ _ M rr (wpB_bind h fun b μ H' m' e M' h' => ?_)⟩
  cases b with
  | true => exact iteT (qb σ H' m' ρ μ Q M' (rr.mono e) h')
  | false => exact iteF (h' H' m' .refl M')
theorem dw_or (ha : DT X W a fb) (hb : DW X W (.BoolOp .Or (b :: rest) pos) fb2) : DW X W (.BoolOp .Or (a :: b :: rest) pos) (bOr fb fb2) := by
  obtain ⟨ta, pa, qa⟩ := ha.ex
  obtain ⟨tb, pb, qb⟩ := hb.ex
  refine .in ⟨_, pw_or pa pb, fun σ H m ρ μ Q M rr h => qa σ H m ρ μ _ M rr (wpB_bind h fun b μ H' m' e M' h' => ?_)⟩
  cases b with
  | true => exact iteT (h' H' m' .refl M')
  | false => exact iteF (qb σ H' m' ρ μ Q M' (rr.mono e) h')
theorem dt_w (h : DW X W a fb) : DT X W a fb := by
  obtain ⟨ta, pa, qa⟩ := h.ex
  exact .in ⟨_, pa.pt, qa⟩
/-! ### .. as values -/
def eAnd (f g : FE) : FE := fun ρ μ => (f ρ μ).bind fun s μ1 => (asB s μ1).bind fun b μ1 => if b = true then g ρ μ1 else .ok (.d (.bl false)) μ1
def eOr (f g : FE) : FE := fun ρ μ => (f ρ μ).bind fun s μ1 => (asB s μ1).bind fun b μ1 => if b = true then .ok (.d (.bl true)) μ1 else g ρ μ1
def eNot (f : FE) : FE := fun ρ μ => (f ρ μ).bind fun s μ1 => (asB s μ1).bind fun b μ1 => .ok (.d (.bl (!b))) μ1
theorem wpE_asB {K : PySem.W.Frag} {mg : Str → Option Value} {m : Mc} {o : Out S} {k : Bool → Mu → Out S} {Q : V → Hp → Prop} {Q' : Bool → Hp → Prop} {E : XK} (h : wpE K mg m (o.bind fun s μ => (asB s μ).bind k) Q E)
    (hk : ∀ b μ H' m', Ext m m' → Mem K mg m' μ H' → wpE K mg m' (k b μ) Q E → Q' b H') : wpE K mg m o (fun x H' => ∃ c, x = .bl c ∧ Q' c H') E := by
  cases o with
  | stk => exact h
  | exc x μ => exact h
  | ok s μ =>
    intro v H' m' e M r
    have h : wpE K mg m ((asB s μ).bind k) Q E := h
    cases e' : asB s μ with
    | stk => rw [e'] at h; exact h.elim
    | exc x μ' => unfold asB at e'; split at e' <;> cases e'
    | ok b μ4 =>
      rw [e'] at h
      unfold asB at e'
      split at e'
      · cases e'
        cases (show Is K mg m'.fr (.bl b) v from r)
        exact ⟨b, rfl, hk b μ H' m' e M (wpE.mono (o := k b μ) e h)⟩
      · cases e'
theorem de_one {op : BoolOp} (ha : DE X W a f) : DE X W (.BoolOp op [a] pos) f := by
  obtain ⟨ta, pa, qa⟩ := ha.ex
  exact .in ⟨_, pe_one pa, qa⟩
theorem de_and (ha : DE X W a f1) (hb : DE X W (.BoolOp .And (b :: rest) pos) f2) : DE X W (.BoolOp .And (a :: b :: rest) pos) (eAnd f1 f2) := by
  obtain ⟨ta, pa, qa⟩ := ha.ex
  obtain ⟨tb, pb, qb⟩ := hb.ex
  refine .in ⟨_, pe_and pa pb, fun σ H m ρ μ Q M rr h => qa σ H m ρ μ _ M rr (wpE_asB h fun b μ H' m' e M' h' => ?_)⟩
  cases b with
  | true => exact iteT (qb σ H' m' ρ μ Q M' (rr.mono e) h')
  | false => exact iteF (h' _ H' m' .refl M' (.bl false))
theorem de_or (ha : DE X W a f1) (hb : DE X W (.BoolOp .Or (b :: rest) pos) f2) : DE X W (.BoolOp .Or (a :: b :: rest) pos) (eOr f1 f2) := by
  obtain ⟨ta, pa, qa⟩ := ha.ex
  obtain ⟨tb, pb, qb⟩ := hb.ex
  refine .in ⟨_, pe_or pa pb, fun σ H m ρ μ Q M rr h => qa σ H m ρ μ _ M rr (wpE_asB h fun b μ H' m' e M' h' => ?_)⟩
  cases b with
  | true => exact iteT (h' _ H' m' .refl M' (.bl true))
  | false => exact iteF (qb σ H' m' ρ μ Q M' (rr.mono e) h')
theorem de_not (ha : DE X W a f) : DE X W (.UnaryOp .Not a pos) (eNot f) := by
  obtain ⟨ta, pa, qa⟩ := ha.ex
  exact .in ⟨_, pe_not pa, fun σ H m ρ μ Q M rr h => qa σ H m ρ μ _ M rr (wpE_asB (k := fun b μ1 => .ok (.d (.bl (!b))) μ1) h fun b μ H' m' e M' h' => h' _ H' m' .refl M' (.bl (!b)))⟩
def eIf (t : FB) (f g : FE) : FE := fun ρ μ => (t ρ μ).bind fun b μ1 => if b = true then f ρ μ1 else g ρ μ1
theorem wpE_bindB {K : PySem.W.Frag} {mg : Str → Option Value} {m : Mc} {o : Out Bool} {k : Bool → Mu → Out S} {Q : V → Hp → Prop} {Q' : Bool → Hp → Prop} {E : XK} (h : wpE K mg m (o.bind k) Q E)
    (hk : ∀ b μ H' m', Ext m m' → Mem K mg m' μ H' → wpE K mg m' (k b μ) Q E → Q' b H') : wpB K mg m o Q' E := by
  cases o with
  | stk => exact h
  | exc x μ => exact h
  | ok b μ => exact fun H' m' e M => hk b μ H' m' e M (wpE.mono (o := k b μ) e h)
theorem de_if (hc : DT X W c fb) (ha : DE X W a f1) (hb : DE X W b f2) : DE X W (.IfExp c a b pos) (eIf fb f1 f2) := by
  obtain ⟨tc, pc, qc⟩ := hc.ex
  obtain ⟨ta, pa, qa⟩ := ha.ex
  obtain ⟨tb, pb, qb⟩ := hb.ex
  refine .in ⟨_, pe_ifExp pc pa pb, fun σ H m ρ μ Q M rr h => qc σ H m ρ μ _ M rr (wpE_bindB h fun b μ H' m' e M' h' => ?_)⟩
  cases b with
  | true => exact iteT (qa σ H' m' ρ μ Q M' (rr.mono e) h')
  | false => exact iteF (qb σ H' m' ρ μ Q M' (rr.mono e) h')
/-! ### one-place operations -/
def op1 (g : D → Option D) (a : S) (μ : Mu) : Out S := match view a μ with
  | some x => (match g x with
    | some z => .ok (.d z) μ
    | none => .stk)
  | _ => .stk
def eUn (g : D → Option D) (f : FE) : FE := fun ρ μ => (f ρ μ).bind fun s μ1 => op1 g s μ1
def Snd1 (K : PySem.W.Frag) (mg : Str → Option Value) (r : V → Hp → VK → Prop) (g : D → Option D) : Prop :=
  ∀ F H x a z Q, Same F H → Vw K mg F H a x → g a = some z → Gives K mg F H z Q → r x H Q
theorem wpE_bind {K : PySem.W.Frag} {mg : Str → Option Value} {m : Mc} {o : Out S} {k : S → Mu → Out S} {Q Q' : V → Hp → Prop} {E : XK} (h : wpE K mg m (o.bind k) Q E)
    (hk : ∀ s v μ H' m', Ext m m' → Mem K mg m' μ H' → SIs K mg m' s v → wpE K mg m' (k s μ) Q E → Q' v H') : wpE K mg m o Q' E := by
  cases o with
  | stk => exact h
  | exc x μ => exact h
  | ok b μ => exact fun v H' m' e M r => hk b v μ H' m' e M r (wpE.mono (o := k b μ) e h)
theorem snd1_at {K : PySem.W.Frag} {mg : Str → Option Value} {r : V → Hp → VK → Prop} {g : D → Option D} (hs : Snd1 K mg r g) {m : Mc} {μ : Mu} {H : Hp} {a : S} {x : V} {Q : V → Hp → Prop} {E : XK} (M : Mem K mg m μ H) (ra : SIs K mg m a x)
    (h : wpE K mg m (op1 g a μ) Q E) : r x H Q := by
  unfold op1 at h
  split at h
  · rename_i u h1
    split at h
    · rename_i z hz
      exact hs m.fr H x u z Q M.sub (view_ok M h1 ra) hz (gives_of M h)
    · exact h.elim
  · exact h.elim
theorem de_un {op : UnaryOp} {r : V → Hp → VK → Prop} {g : D → Option D} (ho : UnR X (unaryOp op) r) (hs : Snd1 X.K X.mg r g) (ha : DE X W a f) : DE X W (.UnaryOp op a pos) (eUn g f) := by
  obtain ⟨ta, pa, qa⟩ := ha.ex
  exact .in ⟨_, pe_un ho pa, fun σ H m ρ μ Q M rr h => qa σ H m ρ μ _ M rr (wpE_bind h fun s v μ H' m' e M' r' h' => snd1_at hs M' r' h')⟩
end
end GF

set_option maxHeartbeats 2000000
/-! Operations by data. -/
namespace GF
open PySem PySem.Spec PyProof.Rows L2

def cap : Nat := 1000000
theorem cap_line {n : Nat} (h : n ≤ cap) : n ≤ sizeLine := by rw [sizeLine_eq]; unfold cap at h; omega

/-! ### tuple * int, all of it -/
theorem tuple_mul_same (l : Addr) (items : Array Value) (n : Nat) (dd : Option Addr) (sl : Array (Option Value)) (x : Int) (u : Tok) (c0 : (decide (x < -(2 ^ 63)) || decide (x ≥ 2 ^ 63)) = false) (c1 : (items.isEmpty || x == 1) = true) :
    Meets (Builtin.«tuple.__mul__» ⟨[.ref l, .int x u], []⟩) (fun _ R s => s.heap.get? l = some { cls := .type "tuple", dict := dd, data := .seq items n, slots := sl } ∧ R (.ok (.ret (Value.ref l))) s) :=
  .of_wp fun prog w A R s h => by
    obtain ⟨hp, g, d, tk, os⟩ := s
    obtain ⟨hl, h⟩ := h
    have f1 := AutoSeq1.idx_int
    wp_walk using wpAny_loadPart' hl
    repeat (first
      | (refine wpAny_ite_false (decide_eq_false (by rw [c0]; exact Bool.false_ne_true)) ?_; wp_walk using wpAny_loadPart' hl)
      | (refine wpAny_ite_true (decide_eq_true c1) ?_; wp_walk using wpAny_loadPart' hl))
    exact ⟨_, rfl, h⟩
theorem tuple_mul_none (l : Addr) (items : Array Value) (n : Nat) (dd : Option Addr) (sl : Array (Option Value)) (x : Int) (u : Tok) (c0 : (decide (x < -(2 ^ 63)) || decide (x ≥ 2 ^ 63)) = false) (c1 : (items.isEmpty || x == 1) = false) (c2 : (decide (x ≤ 0) || items.isEmpty) = true) :
    Meets (Builtin.«tuple.__mul__» ⟨[.ref l, .int x u], []⟩) (fun _ R s => s.heap.get? l = some { cls := .type "tuple", dict := dd, data := .seq items n, slots := sl } ∧
      R (.ok (.ret (Value.ref s.heap.objs.size))) { s with heap := s.heap.push { cls := Value.type "tuple", data := Data.seq #[] }, toks := s.toks }) :=
  .of_wp fun prog w A R s h => by
    obtain ⟨hp, g, d, tk, os⟩ := s
    obtain ⟨hl, h⟩ := h
    have f1 := AutoSeq1.idx_int
    wp_walk using wpAny_loadPart' hl
    repeat (first
      | (refine wpAny_ite_false (decide_eq_false (by rw [c0]; exact Bool.false_ne_true)) ?_; wp_walk using wpAny_loadPart' hl)
      | (refine wpAny_ite_false (decide_eq_false (by rw [c1]; exact Bool.false_ne_true)) ?_; wp_walk using wpAny_loadPart' hl)
      | (refine wpAny_ite_true (decide_eq_true c2) ?_; wp_walk using wpAny_loadPart' hl))
    exact ⟨_, rfl, h⟩

section
variable {X : Cx}
/-- t * k, k up to a thousand -/
def rRepA (K : PySem.W.Frag) : R2 := fun x y H Q => ∃ l k xs, x = .ref l ∧ y = .int k ∧ SqT K H l xs ∧ k ≤ 1000 ∧ xs.length ≤ 1000 ∧ -(2 ^ 63) ≤ k ∧
  ((xs = [] ∨ k = 1) → Q (.ref l) H) ∧ (xs ≠ [] → k ≤ 0 → ∀ p, H p = none → Q (.ref p) (upd H p (.tup []))) ∧ (xs ≠ [] → 2 ≤ k → ∀ p, H p = none → Q (.ref p) (upd H p (.tup (List.replicate k.toNat xs).flatten)))
theorem op_repA : OpR X (binaryOp .Mult) (rRepA X.K) := by
  intro pins s σ H x y v u Q I rx ry h
  obtain ⟨l, k, xs, rfl, rfl, hT, h1, hz, h0, q1, q2, q3⟩ := h
  by_cases big : xs ≠ [] ∧ 2 ≤ k
  · exact op_repT pins s σ H _ _ v u Q I rx ry ⟨l, k, xs, rfl, rfl, hT, big.1, big.2, h1, hz, q3 big.1 big.2⟩
  · cases rx
    obtain ⟨t, rfl⟩ := ry
    obtain ⟨its, r, ⟨⟨cls, dd, data, sl⟩, ho, hc, n, hd⟩, hs⟩ := I.tuple hT
    simp only at hc hd
    subst hc hd
    have hle : its.length = xs.length := r.length.symm
    have c0 : (decide (k < -(2 ^ 63)) || decide (k ≥ 2 ^ 63)) = false := by
      rw [decide_eq_false (by omega), decide_eq_false (by omega)] <;> rfl
    have road : ∀ {R : Value → Shared → Prop} {Pm : World → (Result → Shared → Prop) → Shared → Prop}, True := fun {_ _} => trivial
    by_cases c1 : (its.toArray.isEmpty || k == 1) = true
    · refine wpAny_binaryOp_repeat_ref (T := "tuple") (U := "int") (by decide) ⟨_, ho, rfl⟩ (fun s' => typeIs_int s' k t) noFill_tuple_mul F.fills_int_mul F.slot_int_rmul repeat_tuple F.slot_int_index.lookup
        (call_meets F.slot_int_rmul (typeIs_int s k t) F.entry_int_rmul (F.args_int_rmul_2 _ _) (int_rmul_tuple k t l its.toArray n dd sl)
          ⟨ho, rfl, ⟨_, ho, rfl⟩, call_meets F.slot_tuple_mul ⟨_, ho, rfl⟩ F.entry_tuple_mul (F.args_tuple_mul_2 _ _) (tuple_mul_same l its.toArray n dd sl k t c0 c1) ⟨ho, ?_⟩⟩)
      refine ⟨.ref l, H, I, rfl, q1 ?_⟩
      rw [Bool.or_eq_true] at c1
      rcases c1 with z | z
      · refine .inl ?_
        cases its with
        | nil => exact List.eq_nil_of_length_eq_zero hle.symm
        | cons a b => simp at z
      · exact .inr (by simpa using z)
    · have c1 : (its.toArray.isEmpty || k == 1) = false := by simpa using c1
      have hi : its.toArray.isEmpty = false := (Bool.or_eq_false_iff.mp c1).1
      have hk1 : k ≠ 1 := fun z => by
        have := (Bool.or_eq_false_iff.mp c1).2
        rw [z] at this
        simp at this
      have hx : xs ≠ [] := fun z => by
        rw [z] at hle
        cases its with
        | nil => simp at hi
        | cons a b => simp at hle
      have hk : k ≤ 0 := by
        have : ¬ 2 ≤ k := fun z => big ⟨hx, z⟩
        omega
      have c2 : (decide (k ≤ 0) || its.toArray.isEmpty) = true := by rw [decide_eq_true hk]; rfl
      refine wpAny_binaryOp_repeat_ref (T := "tuple") (U := "int") (by decide) ⟨_, ho, rfl⟩ (fun s' => typeIs_int s' k t) noFill_tuple_mul F.fills_int_mul F.slot_int_rmul repeat_tuple F.slot_int_index.lookup
        (call_meets F.slot_int_rmul (typeIs_int s k t) F.entry_int_rmul (F.args_int_rmul_2 _ _) (int_rmul_tuple k t l its.toArray n dd sl)
          ⟨ho, rfl, ⟨_, ho, rfl⟩, call_meets F.slot_tuple_mul ⟨_, ho, rfl⟩ F.entry_tuple_mul (F.args_tuple_mul_2 _ _) (tuple_mul_none l its.toArray n dd sl k t c0 c1 c2) ⟨ho, ?_⟩⟩)
      refine ⟨.ref s.heap.objs.size, _, I.laid (t' := s.toks) (o := .tup []) (fun b ob q => Heap.get?_push_of_some _ q) (Nat.le_refl _) ?_, rfl, q2 hx hk _ (I.hok.fresh (Nat.le_refl _))⟩
      exact ⟨Nat.zero_le _, [], .nil, ⟨_, Heap.get?_push_size _ rfl, rfl, _, rfl⟩⟩
end

/-! ### + -/
def addD : D → D → Option D
  | .int i, .int j => some (.int (i + j))
  | .str a, .str b => if a.length + b.length ≤ cap then some (.str (a ++ b)) else none
  | .tup a, .tup b => if a.length + b.length ≤ cap then some (.tup (a ++ b)) else none
  | .lst a, .lst b => if a.length + b.length ≤ cap then some (.lst (a ++ b)) else none
  | _, _ => none
section
variable {X : Cx} {K : PySem.W.Frag} {mg : Str → Option Value}
abbrev rAddA (K : PySem.W.Frag) : R2 := fun x y H Q => rI0 (fun i j => .int (i + j)) x y H Q ∨ (∃ i j, x = .str i ∧ y = .str j ∧ i.length + j.length ≤ sizeLine ∧ Q (.str (i ++ j)) H) ∨ rCatA K x y H Q ∨ rCat x y H Q
theorem op_addA : OpR X (binaryOp .Add) (rAddA X.K) := op_add.or (op_add_str.or (op_catA.or op_cat))
theorem len2 {F : Hp} {l l' : List D} {vs vs' : List V} (a : IsA K mg F l vs) (b : IsA K mg F l' vs') (h : l.length + l'.length ≤ cap) : vs.length + vs'.length ≤ sizeLine := by
  rw [← a.length, ← b.length]; exact cap_line h
theorem snd_add : Snd2 K mg (rAddA K) addD := by
  intro F H x y a b z Q sm ra rb hg G
  unfold addD at hg
  split at hg
  · cases hg; exact .inl ⟨_, _, ra.int, rb.int, G.1 _ (.int _)⟩
  · split at hg
    · rename_i hc
      cases hg
      exact .inr (.inl ⟨_, _, ra.str, rb.str, cap_line hc, G.1 _ (.str _)⟩)
    · cases hg
  · split at hg
    · rename_i a b hc
      cases hg
      obtain ⟨p, vs, rfl, tF, tH, ia⟩ := ra.tup sm
      obtain ⟨q, ws, rfl, uF, uH, ib⟩ := rb.tup sm
      refine .inr (.inr (.inl ⟨p, q, vs, ws, rfl, rfl, tH, uH, len2 ia ib hc, fun e => ?_, fun _ e => ?_, fun _ _ p' hp => ?_⟩))
      · subst e
        have := ia.length
        have : a = [] := List.eq_nil_of_length_eq_zero this
        subst this
        exact G.1 _ (.tup uF ib)
      · subst e
        have := ib.length
        have : b = [] := List.eq_nil_of_length_eq_zero this
        subst this
        rw [List.append_nil] at G
        exact G.1 _ (.tup tF ia)
      · have sm' := same_add (sm.free hp) (.tup (vs ++ ws))
        exact G.new hp (.tup (SqT.of upd_same) ((ia.mono sm').append (ib.mono sm')))
    · cases hg
  · split at hg
    · rename_i a b hc
      cases hg
      obtain ⟨p, vs, rfl, tH, ia⟩ := ra.lst sm
      obtain ⟨q, ws, rfl, uH, ib⟩ := rb.lst sm
      refine .inr (.inr (.inr ⟨p, q, vs, ws, rfl, rfl, tH, uH, len2 ia ib hc, fun p' hp => ?_⟩))
      have sm' := same_add (sm.free hp) (.lst (vs ++ ws))
      exact G.new hp (.lst upd_same ((ia.mono sm').append (ib.mono sm')))
    · cases hg
  · cases hg
/-! ### - // % ** -/
def subD : D → D → Option D
  | .int i, .int j => some (.int (i - j))
  | _, _ => none
theorem snd_sub : Snd2 K mg (rI0 fun i j => .int (i - j)) subD := by
  intro F H x y a b z Q sm ra rb hg G
  unfold subD at hg
  split at hg
  · cases hg; exact ⟨_, _, ra.int, rb.int, G.1 _ (.int _)⟩
  · cases hg
def fdivD : D → D → Option D
  | .int i, .int j => if 0 < j ∧ j.natAbs.log2 < 9000 then some (.int (i / j)) else none
  | _, _ => none
theorem snd_fdiv : Snd2 K mg (rI CDivW fun i j => .int (i / j)) fdivD := by
  intro F H x y a b z Q sm ra rb hg G
  unfold fdivD at hg
  split at hg
  · split at hg
    · rename_i hc
      cases hg; exact ⟨_, _, ra.int, rb.int, hc, G.1 _ (.int _)⟩
    · cases hg
  · cases hg
def modD : D → D → Option D
  | .int i, .int j => if 0 < j then some (.int (i % j)) else none
  | _, _ => none
theorem snd_mod : Snd2 K mg (rI (fun _ j => 0 < j) fun i j => .int (i % j)) modD := by
  intro F H x y a b z Q sm ra rb hg G
  unfold modD at hg
  split at hg
  · split at hg
    · rename_i hc
      cases hg; exact ⟨_, _, ra.int, rb.int, hc, G.1 _ (.int _)⟩
    · cases hg
  · cases hg
def powD : D → D → Option D
  | .int i, .int j => if 0 ≤ j ∧ j ≤ 1000000 ∧ i.natAbs < 2 ^ 64 then some (.int (i ^ j.toNat)) else none
  | _, _ => none
theorem snd_pow : Snd2 K mg (rI CPow fun i j => .int (i ^ j.toNat)) powD := by
  intro F H x y a b z Q sm ra rb hg G
  unfold powD at hg
  split at hg
  · split at hg
    · rename_i hc
      cases hg; exact ⟨_, _, ra.int, rb.int, hc, G.1 _ (.int _)⟩
    · cases hg
  · cases hg
/-! ### * -/
def mulOk (i j : Int) : Bool := (decide (-(2 ^ 64) < i) && decide (i < 2 ^ 64)) || (decide (-(2 ^ 64) < j) && decide (j < 2 ^ 64)) || decide (i.natAbs.log2 + j.natAbs.log2 < 1000000)
def mulD : D → D → Option D
  | .int i, .int j => if mulOk i j = true then some (.int (i * j)) else none
  | .lst a, .int j => if j ≤ 1000000 ∧ -1000000 ≤ j ∧ a.length * j.toNat ≤ cap then some (.lst (List.replicate j.toNat a).flatten) else none
  | .tup a, .int j => if j ≤ 1000 ∧ -1000 ≤ j ∧ a.length ≤ 1000 then some (.tup (List.replicate j.toNat a).flatten) else none
  | _, _ => none
abbrev rMulA (K : PySem.W.Frag) : R2 := fun x y H Q => rI CMul (fun i j => .int (i * j)) x y H Q ∨ rI CMulW (fun i j => .int (i * j)) x y H Q ∨ rRep x y H Q ∨ rRepA K x y H Q
theorem op_mulA : OpR X (binaryOp .Mult) (rMulA X.K) := op_mul.or (op_mulW.or (op_rep.or op_repA))
theorem snd_mul : Snd2 K mg (rMulA K) mulD := by
  intro F H x y a b z Q sm ra rb hg G
  unfold mulD at hg
  split at hg
  · rename_i i j
    split at hg
    · rename_i hc
      cases hg
      unfold mulOk at hc
      simp only [Bool.or_eq_true, Bool.and_eq_true, decide_eq_true_eq] at hc
      rcases hc with hc | hc
      · exact .inl ⟨_, _, ra.int, rb.int, hc, G.1 _ (.int _)⟩
      · exact .inr (.inl ⟨_, _, ra.int, rb.int, hc, G.1 _ (.int _)⟩)
    · cases hg
  · split at hg
    · rename_i a j hc
      cases hg
      obtain ⟨p, vs, rfl, tH, ia⟩ := ra.lst sm
      refine .inr (.inr (.inl ⟨p, j, vs, rfl, rb.int, tH, by omega, by omega, by rw [← ia.length]; exact cap_line hc.2.2, fun p' hp => ?_⟩))
      have sm' := same_add (sm.free hp) (.lst (List.replicate j.toNat vs).flatten)
      exact G.new hp (.lst upd_same ((ia.mono sm').rep j.toNat))
    · cases hg
  · split at hg
    · rename_i a j hc
      cases hg
      obtain ⟨p, vs, rfl, tF, tH, ia⟩ := ra.tup sm
      refine .inr (.inr (.inr ⟨p, j, vs, rfl, rb.int, tH, hc.1, by rw [← ia.length]; exact hc.2.2, by omega, fun e => ?_, fun _ e p' hp => ?_, fun _ _ p' hp => ?_⟩))
      · rcases e with e | e
        · subst e
          have := ia.length
          have e2 : a = [] := List.eq_nil_of_length_eq_zero this
          subst e2
          refine G.1 _ (.tup tF ?_)
          have : (List.replicate j.toNat ([] : List D)).flatten = [] := by simp
          rw [this]; exact .nil
        · subst e
          refine G.1 _ (.tup tF ?_)
          have : (List.replicate (1 : Int).toNat a).flatten = a := by simp
          rw [this]; exact ia
      · have e0 : j.toNat = 0 := by omega
        refine G.new hp (.tup (SqT.of upd_same) ?_)
        rw [e0]; exact .nil
      · have sm' := same_add (sm.free hp) (.tup (List.replicate j.toNat vs).flatten)
        exact G.new hp (.tup (SqT.of upd_same) ((ia.mono sm').rep j.toNat))
    · cases hg
  · cases hg
/-! ### < <= > >= of ints -/
def cmpD (p : Int → Int → Bool) : D → D → Option D
  | .int i, .int j => some (.bl (p i j))
  | _, _ => none
theorem snd_cmp {p : Int → Int → Bool} : Snd2 K mg (rI0 fun i j => .bl (p i j)) (cmpD p) := by
  intro F H x y a b z Q sm ra rb hg G
  unfold cmpD at hg
  split at hg
  · cases hg; exact ⟨_, _, ra.int, rb.int, G.1 _ (.bl _)⟩
  · cases hg
abbrev ltD := cmpD fun i j => decide (i < j)
abbrev leD := cmpD fun i j => decide (i ≤ j)
abbrev gtD := cmpD fun i j => decide (j < i)
abbrev geD := cmpD fun i j => decide (j ≤ i)
/-! ### == and != -/
mutual
def toPy : D → PyData
  | .non => .none
  | .bl b => .bool b
  | .int i => .int i
  | .str x => .str x
  | .tup l => .tuple (toPyA l)
  | .lst l => .list (toPyA l)
  | .scr _ => .dict []
  | .fn _ => .dict []
  | .ty _ => .dict []
  | .adr _ => .dict []
  | .dic _ _ => .dict []
def toPyA : List D → List PyData
  | [] => []
  | d :: l => toPy d :: toPyA l
end
mutual
theorem dp_of {H : Hp} : ∀ (d : D) {v : V}, Is K mg H d v → (toPy d).canLay0 = true → Dp K H v (toPy d)
  | .non, _, h, _ => by cases h; exact .non
  | .bl b, _, h, _ => by cases h; exact .bl b
  | .int i, _, h, _ => by cases h; exact .int i
  | .str x, _, h, _ => by cases h; exact .str x
  | .tup l, _, h, z => by
    cases h with
    | tup h q => exact .tup h (dpA_of l q (by simpa [toPy, PyData.canLay0] using z))
  | .lst l, _, h, z => by
    cases h with
    | lst h q => exact .lst (SqL.of h) (dpA_of l q (by simpa [toPy, PyData.canLay0] using z))
  | .scr l, _, _, z => by simp [toPy, PyData.canLay0] at z
  | .fn l, _, _, z => by simp [toPy, PyData.canLay0] at z
  | .ty l, _, _, z => by simp [toPy, PyData.canLay0] at z
  | .adr l, _, _, z => by simp [toPy, PyData.canLay0] at z
  | .dic _ l, _, _, z => by simp [toPy, PyData.canLay0] at z
theorem dpA_of {H : Hp} : ∀ (l : List D) {vs : List V}, IsA K mg H l vs → PyData.canLayAll0 (toPyA l) = true → DpAll K H vs (toPyA l)
  | [], _, h, _ => by cases h; exact .nil
  | d :: l, _, h, z => by
    simp only [toPyA, PyData.canLayAll0, Bool.and_eq_true] at z
    cases h with
    | cons h q => exact .cons (dp_of d h z.1) (dpA_of l q z.2)
end
def eqvD (d e : D) : Bool := PyData.eqv (toPy d) (toPy e)
def eqD (d e : D) : Option D := if SeqAt.shaped (toPy d) = true ∧ SeqAt.shaped (toPy e) = true then some (.bl (eqvD d e)) else none
def neD (d e : D) : Option D := if SeqAt.shaped (toPy d) = true ∧ SeqAt.shaped (toPy e) = true then some (.bl (!eqvD d e)) else none
theorem snd_eq : Snd2 K mg (rEqD K) eqD := by
  intro F H x y a b z Q sm ra rb hg G
  unfold eqD at hg
  split at hg
  · rename_i hc
    cases hg
    exact ⟨_, _, dp_of a (ra.is sm) (SeqAt.canLay_of_shaped hc.1), dp_of b (rb.is sm) (SeqAt.canLay_of_shaped hc.2), hc.1, hc.2, G.1 _ (.bl _)⟩
  · cases hg
theorem snd_ne : Snd2 K mg (rNeD K) neD := by
  intro F H x y a b z Q sm ra rb hg G
  unfold neD at hg
  split at hg
  · rename_i hc
    cases hg
    exact ⟨_, _, dp_of a (ra.is sm) (SeqAt.canLay_of_shaped hc.1), dp_of b (rb.is sm) (SeqAt.canLay_of_shaped hc.2), hc.1, hc.2, G.1 _ (.bl _)⟩
  · cases hg
/-! ### is None -/
def isND : D → D → Option D
  | d, .non => some (.bl (isNon d))
  | _, _ => none
def notND : D → D → Option D
  | d, .non => some (.bl (!isNon d))
  | _, _ => none
theorem snd_isN : Snd2 K mg (fun x y H Q => y = .non ∧ Q (.bl (decide (x = .non))) H) isND := by
  intro F H x y a b z Q sm ra rb hg G
  unfold isND at hg
  split at hg
  · cases hg
    refine ⟨rb.non, ?_⟩
    rw [ra.nn]
    exact G.1 _ (.bl _)
  · cases hg
theorem snd_notN : Snd2 K mg (fun x y H Q => y = .non ∧ Q (.bl (!decide (x = .non))) H) notND := by
  intro F H x y a b z Q sm ra rb hg G
  unfold notND at hg
  split at hg
  · cases hg
    refine ⟨rb.non, ?_⟩
    rw [ra.nn]
    exact G.1 _ (.bl _)
  · cases hg
/-! ### x in a list -/
def inLD (d e : D) : Option D := match e with
  | .lst l => if SeqAt.shaped (toPy d) = true ∧ SeqAt.shaped (toPy e) = true then some (.bl (l.any fun z => eqvD z d)) else none
  | _ => none
def notInLD (d e : D) : Option D := match e with
  | .lst l => if SeqAt.shaped (toPy d) = true ∧ SeqAt.shaped (toPy e) = true then some (.bl (!l.any fun z => eqvD z d)) else none
  | _ => none
theorem any_py (d : D) : ∀ l : List D, ((toPyA l).any fun z => PyData.eqv z (toPy d)) = l.any fun z => eqvD z d
  | [] => rfl
  | a :: l => by rw [toPyA, List.any_cons, List.any_cons, any_py d l]; rfl
theorem snd_inL : Snd2 K mg (rInD K) inLD := by
  intro F H x y a b z Q sm ra rb hg G
  unfold inLD at hg
  split at hg
  · rename_i l
    split at hg
    · rename_i hc
      cases hg
      refine ⟨_, toPyA l, dp_of a (ra.is sm) (SeqAt.canLay_of_shaped hc.1), dp_of (.lst l) (rb.is sm) (SeqAt.canLay_of_shaped hc.2), hc.1, hc.2, ?_⟩
      rw [any_py]
      exact G.1 _ (.bl _)
    · cases hg
  · cases hg
theorem snd_notInL : Snd2 K mg (rNotInD K) notInLD := by
  intro F H x y a b z Q sm ra rb hg G
  unfold notInLD at hg
  split at hg
  · rename_i l
    split at hg
    · rename_i hc
      cases hg
      refine ⟨_, toPyA l, dp_of a (ra.is sm) (SeqAt.canLay_of_shaped hc.1), dp_of (.lst l) (rb.is sm) (SeqAt.canLay_of_shaped hc.2), hc.1, hc.2, ?_⟩
      rw [any_py]
      exact G.1 _ (.bl _)
    · cases hg
  · cases hg
/-! ### subscripts -/
def ixD : D → D → Option D
  | .lst l, .int i => atI l i
  | .tup l, .int i => atI l i
  | .scr l, .int i => (atI l i).map D.int
  | .str z, .int i => if z.length ≤ cap then (atI z.cps.toList i).map fun c => .str ⟨#[c]⟩ else none
  | _, _ => none
theorem isA_atI {F : Hp} {l : List D} {vs : List V} {i : Int} {d : D} (r : IsA K mg F l vs) (h : atI l i = some d) : ∃ v, atI vs i = some v ∧ Is K mg F d v := by
  unfold atI at h ⊢
  rw [← r.length]
  cases e : ixN l.length i with
  | none => rw [e] at h; cases h
  | some j =>
    rw [e] at h
    exact r.get h
theorem atI_map {α β : Type} (f : α → β) (l : List α) (i : Int) : atI (l.map f) i = (atI l i).map f := by
  unfold atI
  rw [List.length_map]
  cases ixN l.length i with
  | none => rfl
  | some j => exact List.getElem?_map
theorem snd_ix : Snd2 K mg (rIx K) ixD := by
  intro F H x y a b z Q sm ra rb hg G
  unfold ixD at hg
  split at hg
  · obtain ⟨p, vs, rfl, tH, ia⟩ := ra.lst sm
    obtain ⟨v, h1, h2⟩ := isA_atI ia hg
    exact .inl ⟨p, vs, _, v, rfl, rb.int, SqL.of tH, h1, G.1 _ h2⟩
  · obtain ⟨p, vs, rfl, tF, tH, ia⟩ := ra.tup sm
    obtain ⟨v, h1, h2⟩ := isA_atI ia hg
    exact .inr (.inl ⟨p, vs, _, v, rfl, rb.int, tH, h1, G.1 _ h2⟩)
  · rename_i l i
    obtain ⟨p, rfl, tH⟩ := ra.scr sm
    obtain ⟨j, h1, rfl⟩ := Option.map_eq_some_iff.mp hg
    exact .inl ⟨p, _, _, .int j, rfl, rb.int, tH, by rw [atI_map, h1]; rfl, G.1 _ (.int _)⟩
  · split at hg
    · rename_i hc
      obtain ⟨c, h1, rfl⟩ := Option.map_eq_some_iff.mp hg
      exact .inr (.inr ⟨_, _, c, ra.str, rb.int, cap_line hc, h1, G.1 _ (.str _)⟩)
    · cases hg
  · cases hg
/-! ### unary -/
def negD : D → Option D
  | .int i => some (.int (-i))
  | _ => none
theorem snd_neg : Snd1 K mg (rU fun i => .int (-i)) negD := by
  intro F H x a z Q sm ra hg G
  unfold negD at hg
  split at hg
  · cases hg; exact ⟨_, ra.int, G.1 _ (.int _)⟩
  · cases hg
end
end GF

set_option maxHeartbeats 2000000
/-! Arguments, displays, slices, calls, what is walked, comprehensions. -/
namespace GF
open PySem PySem.Spec PyProof.Rows L2

/-! ### argument lists -/
def aNil : FA := fun _ μ => .ok [] μ
def aCons (f : FE) (r : FA) : FA := fun ρ μ => (f ρ μ).bind fun s μ1 => (r ρ μ1).bind fun ss μ2 => .ok (s :: ss) μ2
section
variable {X : Cx} {W : WX} {e : Expr} {es : List Expr} {f : FE} {fa : FA} {pos : Pos}
theorem da_nil : DA X W [] aNil := .in ⟨_, pa_nil, fun σ H m ρ μ Q M rr h => h [] H m .refl M .nil⟩
theorem da_cons (he : DE X W e f) (ha : DA X W es fa) (hs : starEach (e :: es) X.env = (false, eval e X.env) :: starEach es X.env := by rfl) : DA X W (e :: es) (aCons f fa) := by
  obtain ⟨te, pe, qe⟩ := he.ex
  obtain ⟨ta, pa, qa⟩ := ha.ex
  refine .in ⟨_, pa_cons pe pa hs, fun σ H m ρ μ Q M rr h => ?_⟩
  refine qe σ H m ρ μ _ M rr ?_
  have h : wpA X.K X.mg m ((f ρ μ).bind fun s μ1 => (fa ρ μ1).bind fun ss μ2 => .ok (s :: ss) μ2) Q _ := h
  cases e1 : f ρ μ with
  | stk => rw [e1] at h; exact h
  | exc x μ' => rw [e1] at h; exact h
  | ok s μ1 =>
    rw [e1] at h
    intro v H1 m1 x1 M1 r1
    have h : wpA X.K X.mg m ((fa ρ μ1).bind fun ss μ2 => .ok (s :: ss) μ2) Q _ := h
    have h := h.mono x1
    refine qa σ H1 m1 ρ μ1 _ M1 (rr.mono x1) ?_
    cases e2 : fa ρ μ1 with
    | stk => rw [e2] at h; exact h
    | exc x μ' => rw [e2] at h; exact h
    | ok ss μ2 =>
      rw [e2] at h
      intro vs H2 m2 x2 M2 r2
      exact h _ H2 m2 x2 M2 (.cons (r1.mono x2) r2)
theorem wpA_bind {K : PySem.W.Frag} {mg : Str → Option Value} {m : Mc} {o : Out (List S)} {k : List S → Mu → Out S} {Q : V → Hp → Prop} {Q' : List V → Hp → Prop} {E : XK} (h : wpE K mg m (o.bind k) Q E)
    (hk : ∀ s v μ H' m', Ext m m' → Mem K mg m' μ H' → SAll K mg m' s v → wpE K mg m' (k s μ) Q E → Q' v H') : wpA K mg m o Q' E := by
  cases o with
  | stk => exact h
  | exc x μ => exact h
  | ok b μ => exact fun v H' m' e M r => hk b v μ H' m' e M r (wpE.mono (o := k b μ) e h)

/-! ### displays -/
def allD : List S → Option (List D)
  | [] => some []
  | .d d :: r => (allD r).map (d :: ·)
  | .c _ :: _ => none
theorem allD_ok {K : PySem.W.Frag} {mg : Str → Option Value} {m : Mc} : ∀ {ss : List S} {vs : List V} {l : List D}, SAll K mg m ss vs → allD ss = some l → IsA K mg m.fr l vs
  | [], _, _, .nil, h => by cases h; exact .nil
  | .d d :: r, _, _, .cons a q, h => by
    obtain ⟨l', h1, rfl⟩ := Option.map_eq_some_iff.mp h
    exact .cons a (allD_ok q h1)
  | .c _ :: _, _, _, .cons _ _, h => by cases h
def mkTup (ss : List S) (μ : Mu) : Out S := match allD ss with
  | some l => if l.length ≤ cap then .ok (.d (.tup l)) μ else .stk
  | none => .stk
def mkLst (ss : List S) (μ : Mu) : Out S := match allD ss with
  | some l => if l.length ≤ cap then .ok (.d (.lst l)) μ else .stk
  | none => .stk
def mkCell (ss : List S) (μ : Mu) : Out S := match allD ss with
  | some l => if l.length ≤ cap then .ok (.c μ.length) (μ ++ [.lst l]) else .stk
  | none => .stk
def eTup (fa : FA) : FE := fun ρ μ => (fa ρ μ).bind mkTup
def eLst (fa : FA) : FE := fun ρ μ => (fa ρ μ).bind mkLst
def eCell (fa : FA) : FE := fun ρ μ => (fa ρ μ).bind mkCell
theorem de_tup {x1} (ha : DA X W es fa) : DE X W (.Tuple es x1 pos) (eTup fa) := by
  obtain ⟨ta, pa, qa⟩ := ha.ex
  refine .in ⟨_, pe_tup pa, fun σ H m ρ μ Q M rr h => qa σ H m ρ μ _ M rr (wpA_bind h fun s v μ H' m' e M' r' h' => ?_)⟩
  unfold mkTup at h'
  split at h'
  · rename_i l hl
    split at h'
    · rename_i hc
      have ia := allD_ok r' hl
      refine ⟨by rw [← ia.length]; exact cap_line hc, fun p hp => ?_⟩
      exact h' _ _ (m'.add p _) (ext_add (M'.free hp) _) (M'.new hp _) (.tup (SqT.of upd_same) (ia.mono (same_add (M'.free hp) _)))
    · exact h'.elim
  · exact h'.elim
theorem de_lst (ha : DA X W es fa) : DE X W (.List es pos) (eLst fa) := by
  obtain ⟨ta, pa, qa⟩ := ha.ex
  refine .in ⟨_, pe_lst pa, fun σ H m ρ μ Q M rr h => qa σ H m ρ μ _ M rr (wpA_bind h fun s v μ H' m' e M' r' h' => ?_)⟩
  unfold mkLst at h'
  split at h'
  · rename_i l hl
    split at h'
    · rename_i hc
      have ia := allD_ok r' hl
      refine ⟨by rw [← ia.length]; exact cap_line hc, fun p hp => ?_⟩
      exact h' _ _ (m'.add p _) (ext_add (M'.free hp) _) (M'.new hp _) (.lst upd_same (ia.mono (same_add (M'.free hp) _)))
    · exact h'.elim
  · exact h'.elim
/-- a list that will be changed: a new cell -/
theorem de_cell (ha : DA X W es fa) : DE X W (.List es pos) (eCell fa) := by
  obtain ⟨ta, pa, qa⟩ := ha.ex
  refine .in ⟨_, pe_lst pa, fun σ H m ρ μ Q M rr h => qa σ H m ρ μ _ M rr (wpA_bind h fun s v μ H' m' e M' r' h' => ?_)⟩
  unfold mkCell at h'
  split at h'
  · rename_i l hl
    split at h'
    · rename_i hc
      have ia := allD_ok r' hl
      refine ⟨by rw [← ia.length]; exact cap_line hc, fun p hp => ?_⟩
      refine h' _ _ (m'.psh p) ext_psh (M'.push hp ia) ⟨p, ?_, rfl⟩
      show (m'.al ++ [p])[μ.length]? = some p
      rw [← M'.len]; simp
    · exact h'.elim
  · exact h'.elim
end

/-! ### slices -/
abbrev FO := Rho → Mu → Out (Option Int)
def wpO (K : PySem.W.Frag) (mg : Str → Option Value) (m : Mc) (o : Out (Option Int)) (Q : Option Int → Hp → Prop) (E : XK) : Prop := match o with
  | .stk => False
  | .ok b μ => ∀ H' m', Ext m m' → Mem K mg m' μ H' → Q b H'
  | .exc x μ => ∀ cls d H' m', Ext m m' → Mem K mg m' μ H' → ExnIs K mg m'.fr H' x cls d → E cls d H'
theorem wpO.mono {K : PySem.W.Frag} {mg : Str → Option Value} {m m1 : Mc} {o : Out (Option Int)} {Q : Option Int → Hp → Prop} {E : XK} (e : Ext m m1) (h : wpO K mg m o Q E) : wpO K mg m1 o Q E := by
  cases o with
  | stk => exact h
  | ok s μ => exact fun H' m' x => h H' m' (e.trans x)
  | exc x μ => exact fun c d H' m' x => h c d H' m' (e.trans x)
structure DO (X : Cx) (W : WX) (e : Option Expr) (f : FO) : Prop where
  ex : ∃ t : TO, PO X e t ∧ ∀ σ H m ρ μ Q, Mem X.K X.mg m μ H → RhoIs X.K X.mg m ρ σ → wpO X.K X.mg m (f ρ μ) Q (fun c d H' => W c d σ H') → t σ H Q
def oNone : FO := fun _ μ => .ok none μ
def asI (s : S) (μ : Mu) : Out (Option Int) := match s with
  | .d (.int i) => .ok (some i) μ
  | _ => .stk
def oSome (f : FE) : FO := fun ρ μ => (f ρ μ).bind asI
def cutL {α : Type} (xs : List α) (lo hi : Option Int) : List α := (xs.drop (HT.sIx xs.length 0 lo)).take (HT.sIx xs.length xs.length hi - HT.sIx xs.length 0 lo)
def slD (d : D) (lo hi : Option Int) : Option D := match d with
  | .tup l => some (.tup (cutL l lo hi))
  | .lst l => some (.lst (cutL l lo hi))
  | .str z => if z.length ≤ cap then some (.str (cutS z lo hi)) else none
  | _ => none
def op3 (a : S) (lo hi : Option Int) (μ : Mu) : Out S := match view a μ with
  | some x => (match slD x lo hi with
    | some z => .ok (.d z) μ
    | none => .stk)
  | _ => .stk
def eSl (f : FE) (g h : FO) : FE := fun ρ μ => (f ρ μ).bind fun s μ1 => (g ρ μ1).bind fun l μ2 => (h ρ μ2).bind fun u μ3 => op3 s l u μ3
section
variable {X : Cx} {W : WX} {e : Expr} {es : List Expr} {f : FE} {fa : FA} {pos p2 : Pos} {lo hi : Option Expr} {g h : FO} {K : PySem.W.Frag} {mg : Str → Option Value}
theorem do_none : DO X W none oNone := ⟨_, po_none, fun σ H m ρ μ Q M rr h => h H m .refl M⟩
theorem do_some (he : DE X W e f) : DO X W (some e) (oSome f) := by
  obtain ⟨te, pe, qe⟩ := he.ex
  refine ⟨_, po_some pe, fun σ H m ρ μ Q M rr h => qe σ H m ρ μ _ M rr ?_⟩
  have h : wpO X.K X.mg m ((f ρ μ).bind asI) Q _ := h
  cases e1 : f ρ μ with
  | stk => rw [e1] at h; exact h
  | exc x μ' => rw [e1] at h; exact h
  | ok s μ1 =>
    rw [e1] at h
    intro v H1 m1 x1 M1 r1
    have h : wpO X.K X.mg m (asI s μ1) Q _ := h
    cases s with
    | c k => exact h.elim
    | d d =>
      cases d with
      | int i =>
        cases (show Is X.K X.mg m1.fr (.int i) v from r1)
        exact ⟨i, rfl, h H1 m1 x1 M1⟩
      | _ => exact h.elim
theorem IsA.cut {F : Hp} {l : List D} {vs : List V} (r : IsA K mg F l vs) (lo hi : Option Int) : IsA K mg F (cutL l lo hi) (cutV vs lo hi) := by
  unfold cutL cutV
  rw [r.length]
  exact (r.drop _).take _
abbrev rSlAny (K : PySem.W.Frag) : V → Option Int → Option Int → Hp → VK → Prop := fun x lo hi H Q => rSlA K x lo hi H Q ∨ rSlL K x lo hi H Q ∨ rSlS x lo hi H Q
theorem sl_any : SlR X (rSlAny X.K) := sl_tupA.or (sl_list.or sl_str)
theorem snd_sl {F H : Hp} {x : V} {a z : D} {lo hi : Option Int} {Q : V → Hp → Prop} (sm : Same F H) (ra : Vw K mg F H a x) (hg : slD a lo hi = some z) (G : Gives K mg F H z Q) : rSlAny K x lo hi H Q := by
  unfold slD at hg
  split at hg
  · rename_i l
    cases hg
    obtain ⟨p, vs, rfl, tF, tH, ia⟩ := ra.tup sm
    refine .inl ⟨p, vs, rfl, tH, fun hw => G.1 _ (.tup tF ?_), fun _ p' hp => ?_⟩
    · have e : cutL l lo hi = l := by
        unfold cutL
        rw [ia.length, hw.1, hw.2, List.drop_zero, Nat.sub_zero, ← ia.length, List.take_length]
      rw [e]; exact ia
    · have sm' := same_add (sm.free hp) (.tup (cutV vs lo hi))
      exact G.new hp (.tup (SqT.of upd_same) ((ia.mono sm').cut lo hi))
  · rename_i l
    cases hg
    obtain ⟨p, vs, rfl, tH, ia⟩ := ra.lst sm
    refine .inr (.inl ⟨p, vs, rfl, SqL.of tH, fun p' hp => ?_⟩)
    have sm' := same_add (sm.free hp) (.lst (cutV vs lo hi))
    exact G.new hp (.lst upd_same ((ia.mono sm').cut lo hi))
  · split at hg
    · rename_i hc
      cases hg
      exact .inr (.inr ⟨_, ra.str, cap_line hc, G.1 _ (.str _)⟩)
    · cases hg
  · cases hg
theorem de_sl (he : DE X W e f) (hl : DO X W lo g) (hh : DO X W hi h) : DE X W (.Subscript e (.Slice lo hi none p2) pos) (eSl f g h) := by
  obtain ⟨te, pe, qe⟩ := he.ex
  obtain ⟨tl, pl, ql⟩ := hl.ex
  obtain ⟨th, ph, qh⟩ := hh.ex
  refine .in ⟨_, pe_slice sl_any pe pl ph, fun σ H m ρ μ Q M rr w => qe σ H m ρ μ _ M rr (wpE_bind w fun s v μ1 H1 m1 e1 M1 r1 w1 => ?_)⟩
  refine ql σ H1 m1 ρ μ1 _ M1 (rr.mono e1) ?_
  have w1 : wpE X.K X.mg m1 ((g ρ μ1).bind fun l μ2 => (h ρ μ2).bind fun u μ3 => op3 s l u μ3) Q _ := w1
  cases e2 : g ρ μ1 with
  | stk => rw [e2] at w1; exact w1
  | exc x μ' => rw [e2] at w1; exact w1
  | ok l μ2 =>
    rw [e2] at w1
    intro H2 m2 x2 M2
    refine qh σ H2 m2 ρ μ2 _ M2 (rr.mono (e1.trans x2)) ?_
    have w2 : wpE X.K X.mg m1 ((h ρ μ2).bind fun u μ3 => op3 s l u μ3) Q _ := w1
    have w2 := w2.mono x2
    cases e3 : h ρ μ2 with
    | stk => rw [e3] at w2; exact w2
    | exc x μ' => rw [e3] at w2; exact w2
    | ok u μ3 =>
      rw [e3] at w2
      intro H3 m3 x3 M3
      have w3 : wpE X.K X.mg m2 (op3 s l u μ3) Q _ := w2
      have w3 := w3.mono x3
      unfold op3 at w3
      split at w3
      · rename_i d hd
        split at w3
        · rename_i z hz
          exact snd_sl M3.sub (view_ok M3 hd ((r1.mono x2).mono x3)) hz (gives_of M3 w3)
        · exact w3.elim
      · exact w3.elim
/-- xs[::-1] of a list -/
def revD : D → Option D
  | .lst l => some (.lst l.reverse)
  | _ => none
theorem de_revL {k : Nat} {p1 p2 p3 : Pos} (he : DE X W e f) : DE X W (.Subscript e (.Slice none none (some (.UnaryOp .USub (.Constant (.int 1) k p1) p2)) p3) pos) (eUn revD f) := by
  obtain ⟨te, pe, qe⟩ := he.ex
  refine .in ⟨_, pe_revL pe, fun σ H m ρ μ Q M rr w => qe σ H m ρ μ _ M rr (wpE_bind w fun s v μ1 H1 m1 e1 M1 r1 w1 => ?_)⟩
  unfold op1 at w1
  split at w1
  · rename_i d hd
    split at w1
    · rename_i z hz
      unfold revD at hz
      split at hz
      · cases hz
        obtain ⟨p, vs, rfl, tH, ia⟩ := (view_ok M1 hd r1).lst M1.sub
        refine ⟨p, vs, rfl, SqL.of tH, fun p' hp => ?_⟩
        exact w1 _ _ (m1.add p' _) (ext_add (M1.free hp) _) (M1.new hp _) (.lst upd_same ((ia.mono (same_add (M1.free hp) _)).reverse))
      · cases hz
    · exact w1.elim
  · exact w1.elim
end

/-! ### calls of built-ins -/
inductive VwA (K : PySem.W.Frag) (mg : Str → Option Value) (F H : Hp) : List D → List V → Prop
  | nil : VwA K mg F H [] []
  | cons {d : D} {l : List D} {v : V} {vs : List V} : Vw K mg F H d v → VwA K mg F H l vs → VwA K mg F H (d :: l) (v :: vs)
def viewA : List S → Mu → Option (List D)
  | [], _ => some []
  | s :: r, μ => match view s μ with
    | some d => (viewA r μ).map (d :: ·)
    | none => none
def opA (g : List D → Option D) (ss : List S) (μ : Mu) : Out S := match viewA ss μ with
  | some l => (match g l with
    | some z => .ok (.d z) μ
    | none => .stk)
  | none => .stk
def SndC (K : PySem.W.Frag) (mg : Str → Option Value) (r : List V → Hp → VK → Prop) (g : List D → Option D) : Prop :=
  ∀ F H xs ds z Q, Same F H → VwA K mg F H ds xs → g ds = some z → Gives K mg F H z Q → r xs H Q
def eBi (g : List D → Option D) (fa : FA) : FE := fun ρ μ => (fa ρ μ).bind fun ss μ1 => opA g ss μ1
section
variable {X : Cx} {W : WX} {e : Expr} {es : List Expr} {f : FE} {fa : FA} {p pos : Pos} {K : PySem.W.Frag} {mg : Str → Option Value}
theorem viewA_ok {m : Mc} {μ : Mu} {H : Hp} (M : Mem K mg m μ H) : ∀ {ss : List S} {vs : List V} {l : List D}, SAll K mg m ss vs → viewA ss μ = some l → VwA K mg m.fr H l vs
  | [], _, _, .nil, h => by cases h; exact .nil
  | s :: r, _, _, .cons a q, h => by
    unfold viewA at h
    split at h
    · rename_i d hd
      obtain ⟨l', h1, rfl⟩ := Option.map_eq_some_iff.mp h
      exact .cons (view_ok M hd a) (viewA_ok M q h1)
    · cases h
theorem sndC_at {r : List V → Hp → VK → Prop} {g : List D → Option D} (hs : SndC K mg r g) {m : Mc} {μ : Mu} {H : Hp} {ss : List S} {vs : List V} {Q : V → Hp → Prop} {E : XK} (M : Mem K mg m μ H) (ra : SAll K mg m ss vs)
    (h : wpE K mg m (opA g ss μ) Q E) : r vs H Q := by
  unfold opA at h
  split at h
  · rename_i u h1
    split at h
    · rename_i z hz
      exact hs m.fr H vs u z Q M.sub (viewA_ok M ra h1) hz (gives_of M h)
    · exact h.elim
  · exact h.elim
theorem de_bi {x : Str} {id : String} {r : List V → Hp → VK → Prop} {g : List D → Option D} (hc : CallR X (.builtin id) r) (hs : SndC X.K X.mg r g) (hm : X.mg x = none) (hv : bootBuiltins x = some (.builtin id)) (ha : DA X W (e :: es) fa)
    (hg : Gl X x := by rfl) (hn : x ≠ "__name__" := by decide) (hdb : (x == ("__debug__" : Str)) = false := by decide)
    (he : starEach (e :: es) X.env = (false, eval e X.env) :: starEach es X.env := by rfl) (hpl : (backTo pos (starEach es X.env)).any (·.1) = false := by rfl) : DE X W (.Call (.Name x p) (e :: es) [] pos) (eBi g fa) := by
  obtain ⟨ta, pa, qa⟩ := ha.ex
  exact .in ⟨_, pe_callB hc hg hm hv pa hn hdb he hpl, fun σ H m ρ μ Q M rr h => qa σ H m ρ μ _ M rr (wpA_bind h fun s v μ H' m' e M' r' h' => sndC_at hs M' r' h')⟩
theorem de_ty {x : Str} {T : String} {r : List V → Hp → VK → Prop} {g : List D → Option D} (hc : CallR X (.type T) r) (hs : SndC X.K X.mg r g) (hm : X.mg x = none) (hv : bootBuiltins x = some (.type T)) (ha : DA X W (e :: es) fa)
    (hg : Gl X x := by rfl) (hn : x ≠ "__name__" := by decide) (hdb : (x == ("__debug__" : Str)) = false := by decide)
    (he : starEach (e :: es) X.env = (false, eval e X.env) :: starEach es X.env := by rfl) (hpl : (backTo pos (starEach es X.env)).any (·.1) = false := by rfl) : DE X W (.Call (.Name x p) (e :: es) [] pos) (eBi g fa) := by
  obtain ⟨ta, pa, qa⟩ := ha.ex
  exact .in ⟨_, pe_callTy hc hg hm hv pa hn hdb he hpl, fun σ H m ρ μ Q M rr h => qa σ H m ρ μ _ M rr (wpA_bind h fun s v μ H' m' e M' r' h' => sndC_at hs M' r' h')⟩
/-- a built-in class as a value -/
theorem de_cls {x : Str} {T : String} (hm : X.mg x = none) (hv : bootBuiltins x = some (.type T)) (hg : Gl X x := by rfl) (hn : x ≠ "__name__" := by decide) (hd : (x == ("__debug__" : Str)) = false := by decide) : DE X W (.Name x pos) (eC (.ty T)) :=
  .in ⟨_, pe_bltn (v := .ty T) hg hm hv rfl hn hd, fun σ H m ρ μ Q M rr h => h _ H m .refl M (.ty T)⟩
/-! #### which -/
def lenD : List D → Option D
  | [.lst l] => some (.int l.length)
  | [.tup l] => some (.int l.length)
  | [.scr l] => some (.int l.length)
  | [.str z] => if z.length ≤ cap then some (.int z.length) else none
  | _ => none
theorem vwA1 {F H : Hp} {d : D} {vs : List V} (h : VwA K mg F H [d] vs) : ∃ v, vs = [v] ∧ Vw K mg F H d v := by
  cases h with | cons a q => cases q; exact ⟨_, rfl, a⟩
theorem vwA2 {F H : Hp} {d d' : D} {vs : List V} (h : VwA K mg F H [d, d'] vs) : ∃ v v', vs = [v, v'] ∧ Vw K mg F H d v ∧ Vw K mg F H d' v' := by
  cases h with | cons a q => cases q with | cons b q => cases q; exact ⟨_, _, rfl, a, b⟩
abbrev rLenA (K : PySem.W.Frag) : List V → Hp → VK → Prop := fun xs H Q => (∃ p ys, xs = [.ref p] ∧ (SqL K H p ys ∨ SqT K H p ys) ∧ Q (.int ys.length) H) ∨ (∃ z, xs = [.str z] ∧ z.length ≤ sizeLine ∧ Q (.int z.length) H)
theorem call_lenA : CallR X (.builtin "len") (rLenA X.K) := call_len_seq.or call_len_str
theorem snd_len : SndC K mg (rLenA K) lenD := by
  intro F H xs ds z Q sm ra hg G
  unfold lenD at hg
  split at hg
  · cases hg
    obtain ⟨v, rfl, a⟩ := vwA1 ra
    obtain ⟨p, vs, rfl, tH, ia⟩ := a.lst sm
    exact .inl ⟨p, vs, rfl, .inl (SqL.of tH), by rw [← ia.length]; exact G.1 _ (.int _)⟩
  · cases hg
    obtain ⟨v, rfl, a⟩ := vwA1 ra
    obtain ⟨p, vs, rfl, tF, tH, ia⟩ := a.tup sm
    exact .inl ⟨p, vs, rfl, .inr tH, by rw [← ia.length]; exact G.1 _ (.int _)⟩
  · rename_i l
    cases hg
    obtain ⟨v, rfl, a⟩ := vwA1 ra
    obtain ⟨p, rfl, tH⟩ := a.scr sm
    refine .inl ⟨p, _, rfl, .inl tH, ?_⟩
    rw [List.length_map]
    exact G.1 _ (.int _)
  · split at hg
    · rename_i hc
      cases hg
      obtain ⟨v, rfl, a⟩ := vwA1 ra
      exact .inr ⟨_, by rw [a.str], cap_line hc, G.1 _ (.int _)⟩
    · cases hg
  · cases hg
def intD : List D → Option D
  | [.int i] => some (.int i)
  | [.bl k] => some (.int (if k then 1 else 0))
  | _ => none
theorem snd_int : SndC K mg (fun xs H Q => (∃ i, xs = [.int i] ∧ Q (.int i) H) ∨ ∃ k, xs = [.bl k] ∧ Q (.int (if k then 1 else 0)) H) intD := by
  intro F H xs ds z Q sm ra hg G
  unfold intD at hg
  split at hg
  · cases hg
    obtain ⟨v, rfl, a⟩ := vwA1 ra
    exact .inl ⟨_, by rw [a.int], G.1 _ (.int _)⟩
  · cases hg
    obtain ⟨v, rfl, a⟩ := vwA1 ra
    exact .inr ⟨_, by rw [a.bl], G.1 _ (.int _)⟩
  · cases hg
def listD : List D → Option D
  | [.lst l] => some (.lst l)
  | [.tup l] => some (.lst l)
  | _ => none
theorem snd_list : SndC K mg (fun xs H Q => ∃ p ys, xs = [.ref p] ∧ (SqL K H p ys ∨ SqT K H p ys) ∧ ∀ l, H l = none → Q (.ref l) (upd H l (.lst ys))) listD := by
  intro F H xs ds z Q sm ra hg G
  unfold listD at hg
  split at hg
  · cases hg
    obtain ⟨v, rfl, a⟩ := vwA1 ra
    obtain ⟨p, vs, rfl, tH, ia⟩ := a.lst sm
    exact ⟨p, vs, rfl, .inl (SqL.of tH), fun p' hp => G.new hp (.lst upd_same (ia.mono (same_add (sm.free hp) _)))⟩
  · cases hg
    obtain ⟨v, rfl, a⟩ := vwA1 ra
    obtain ⟨p, vs, rfl, tF, tH, ia⟩ := a.tup sm
    exact ⟨p, vs, rfl, .inr tH, fun p' hp => G.new hp (.lst upd_same (ia.mono (same_add (sm.free hp) _)))⟩
  · cases hg
/-- list(x), the new list to be changed -/
def opLC (ss : List S) (μ : Mu) : Out S := match viewA ss μ with
  | some l => (match listD l with
    | some (.lst z) => .ok (.c μ.length) (μ ++ [.lst z])
    | _ => .stk)
  | none => .stk
def eListC (fa : FA) : FE := fun ρ μ => (fa ρ μ).bind fun ss μ1 => opLC ss μ1
theorem de_listC {x : Str} (hm : X.mg x = none) (hv : bootBuiltins x = some (.type "list")) (ha : DA X W (e :: es) fa)
    (hg : Gl X x := by rfl) (hn : x ≠ "__name__" := by decide) (hdb : (x == ("__debug__" : Str)) = false := by decide)
    (he : starEach (e :: es) X.env = (false, eval e X.env) :: starEach es X.env := by rfl) (hpl : (backTo pos (starEach es X.env)).any (·.1) = false := by rfl) : DE X W (.Call (.Name x p) (e :: es) [] pos) (eListC fa) := by
  obtain ⟨ta, pa, qa⟩ := ha.ex
  refine .in ⟨_, pe_callTy call_list_of hg hm hv pa hn hdb he hpl, fun σ H m ρ μ Q M rr h => qa σ H m ρ μ _ M rr (wpA_bind h fun s v μ H' m' e M' r' h' => ?_)⟩
  unfold opLC at h'
  split at h'
  · rename_i l hl
    have va := viewA_ok M' r' hl
    split at h'
    · rename_i z hz
      unfold listD at hz
      split at hz
      · cases hz
        obtain ⟨v, rfl, a⟩ := vwA1 va
        obtain ⟨p, vs, rfl, tH, ia⟩ := a.lst M'.sub
        refine ⟨p, vs, rfl, .inl (SqL.of tH), fun p' hp => h' _ _ (m'.psh p') ext_psh (M'.push hp ia) ⟨p', ?_, rfl⟩⟩
        show (m'.al ++ [p'])[μ.length]? = some p'
        rw [← M'.len]; simp
      · cases hz
        obtain ⟨v, rfl, a⟩ := vwA1 va
        obtain ⟨p, vs, rfl, tF, tH, ia⟩ := a.tup M'.sub
        refine ⟨p, vs, rfl, .inr tH, fun p' hp => h' _ _ (m'.psh p') ext_psh (M'.push hp ia) ⟨p', ?_, rfl⟩⟩
        show (m'.al ++ [p'])[μ.length]? = some p'
        rw [← M'.len]; simp
      · cases hz
    · exact h'.elim
  · exact h'.elim
def tupleD : List D → Option D
  | [.lst l] => some (.tup l)
  | [.tup l] => some (.tup l)
  | _ => none
theorem snd_tuple : SndC K mg (fun xs H Q => ∃ p ys, xs = [.ref p] ∧ ((SqL K H p ys ∧ ∀ l, H l = none → Q (.ref l) (upd H l (.tup ys))) ∨ (SqT K H p ys ∧ Q (.ref p) H))) tupleD := by
  intro F H xs ds z Q sm ra hg G
  unfold tupleD at hg
  split at hg
  · cases hg
    obtain ⟨v, rfl, a⟩ := vwA1 ra
    obtain ⟨p, vs, rfl, tH, ia⟩ := a.lst sm
    exact ⟨p, vs, rfl, .inl ⟨SqL.of tH, fun p' hp => G.new hp (.tup (SqT.of upd_same) (ia.mono (same_add (sm.free hp) _)))⟩⟩
  · cases hg
    obtain ⟨v, rfl, a⟩ := vwA1 ra
    obtain ⟨p, vs, rfl, tF, tH, ia⟩ := a.tup sm
    exact ⟨p, vs, rfl, .inr ⟨tH, G.1 _ (.tup tF ia)⟩⟩
  · cases hg
def max2D : List D → Option D
  | [.int i, .int j] => some (.int (if j > i then j else i))
  | _ => none
theorem snd_max2 : SndC K mg (fun xs H Q => ∃ i j, xs = [.int i, .int j] ∧ Q (.int (if j > i then j else i)) H) max2D := by
  intro F H xs ds z Q sm ra hg G
  unfold max2D at hg
  split at hg
  · cases hg
    obtain ⟨v, w, rfl, a, b⟩ := vwA2 ra
    exact ⟨_, _, by rw [a.int, b.int], G.1 _ (.int _)⟩
  · cases hg
def min2D : List D → Option D
  | [.int i, .int j] => some (.int (if j < i then j else i))
  | _ => none
theorem snd_min2 : SndC K mg (fun xs H Q => ∃ i j, xs = [.int i, .int j] ∧ Q (.int (if j < i then j else i)) H) min2D := by
  intro F H xs ds z Q sm ra hg G
  unfold min2D at hg
  split at hg
  · cases hg
    obtain ⟨v, w, rfl, a, b⟩ := vwA2 ra
    exact ⟨_, _, by rw [a.int, b.int], G.1 _ (.int _)⟩
  · cases hg
def absD : List D → Option D
  | [.int i] => some (.int (if i < 0 then -i else i))
  | _ => none
theorem snd_abs : SndC K mg (fun xs H Q => ∃ i, xs = [.int i] ∧ Q (.int (if i < 0 then -i else i)) H) absD := by
  intro F H xs ds z Q sm ra hg G
  unfold absD at hg
  split at hg
  · cases hg
    obtain ⟨v, rfl, a⟩ := vwA1 ra
    exact ⟨_, by rw [a.int], G.1 _ (.int _)⟩
  · cases hg
def allBl : List D → Option (List Bool)
  | [] => some []
  | .bl b :: r => (allBl r).map (b :: ·)
  | _ => none
theorem allBl_ok {F : Hp} : ∀ {l : List D} {vs : List V} {bs : List Bool}, IsA K mg F l vs → allBl l = some bs → vs = bs.map V.bl
  | [], _, _, .nil, h => by cases h; rfl
  | .bl b :: r, _, _, .cons a q, h => by
    obtain ⟨l', h1, rfl⟩ := Option.map_eq_some_iff.mp h
    cases a
    rw [allBl_ok q h1]; rfl
  | .non :: _, _, _, .cons _ _, h => by cases h
  | .int _ :: _, _, _, .cons _ _, h => by cases h
  | .str _ :: _, _, _, .cons _ _, h => by cases h
  | .tup _ :: _, _, _, .cons _ _, h => by cases h
  | .lst _ :: _, _, _, .cons _ _, h => by cases h
  | .scr _ :: _, _, _, .cons _ _, h => by cases h
  | .fn _ :: _, _, _, .cons _ _, h => by cases h
  | .ty _ :: _, _, _, .cons _ _, h => by cases h
  | .adr _ :: _, _, _, .cons _ _, h => by cases h
  | .dic _ _ :: _, _, _, .cons _ _, h => by cases h
def allOfD : List D → Option D
  | [.lst l] => (allBl l).map fun bs => .bl (bs.all id)
  | _ => none
theorem snd_all : SndC K mg (rAll K) allOfD := by
  intro F H xs ds z Q sm ra hg G
  unfold allOfD at hg
  split at hg
  · obtain ⟨bs, h1, rfl⟩ := Option.map_eq_some_iff.mp hg
    obtain ⟨v, rfl, a⟩ := vwA1 ra
    obtain ⟨p, vs, rfl, tH, ia⟩ := a.lst sm
    refine ⟨p, bs, rfl, ?_, G.1 _ (.bl _)⟩
    rw [← allBl_ok ia h1]
    exact SqL.of tH
  · cases hg
/-! #### isinstance -/
def isiB (d : D) (T : String) : Option Bool :=
  if T = "int" then (match d with | .int _ => some true | .bl _ => some true | .non => some false | .str _ => some false | .tup _ => some false | .lst _ => some false | _ => none)
  else if T = "bool" then (match d with | .int _ => some false | .bl _ => some true | .non => some false | .str _ => some false | .tup _ => some false | .lst _ => some false | _ => none)
  else if T = "str" then (match d with | .int _ => some false | .bl _ => some false | .non => some false | .str _ => some true | .tup _ => some false | .lst _ => some false | _ => none)
  else if T = "tuple" then (match d with | .int _ => some false | .bl _ => some false | .non => some false | .str _ => some false | .tup _ => some true | .lst _ => some false | _ => none)
  else if T = "list" then (match d with | .int _ => some false | .bl _ => some false | .non => some false | .str _ => some false | .tup _ => some false | .lst _ => some true | _ => none)
  else none
def isiD : List D → Option D
  | [d, .ty T] => (isiB d T).map D.bl
  | _ => none
theorem tyT {H : Hp} {a : Addr} {vs : List V} (h : SqT K H a vs) : TyX K H (.ref a) (.type "tuple") := by
  rcases h with (h | ⟨o, h⟩) | ⟨o, its, n, h, hc, _⟩
  · exact .base (.tup h)
  · exact .fTuple h
  · exact .kTuple h hc
theorem isi_ty {F H : Hp} {d : D} {v : V} {T : String} {b : Bool} (sm : Same F H) (ra : Vw K mg F H d v) (h : isiB d T = some b) : ∃ t, TyX K H v t ∧ PySem.W.kitOne K t (.type T) = some b := by
  have key : ∀ (t : String) (q : TyX K H v (.type t)) (z : kitB t T = some b), ∃ t, TyX K H v t ∧ PySem.W.kitOne K t (.type T) = some b := fun t q z => ⟨_, q, kit_ty z⟩
  unfold isiB at h
  cases d with
  | non =>
    have e := ra.non
    subst e
    refine key "NoneType" (.base .non) ?_
    by_cases c1 : T = "int"
    · subst c1; cases h; decide +kernel
    rw [if_neg c1] at h
    by_cases c2 : T = "bool"
    · subst c2; cases h; decide +kernel
    rw [if_neg c2] at h
    by_cases c3 : T = "str"
    · subst c3; cases h; decide +kernel
    rw [if_neg c3] at h
    by_cases c4 : T = "tuple"
    · subst c4; cases h; decide +kernel
    rw [if_neg c4] at h
    by_cases c5 : T = "list"
    · subst c5; cases h; decide +kernel
    rw [if_neg c5] at h
    cases h
  | bl x =>
    have e := ra.bl
    subst e
    refine key "bool" (.base (.bl x)) ?_
    by_cases c1 : T = "int"
    · subst c1; cases h; decide +kernel
    rw [if_neg c1] at h
    by_cases c2 : T = "bool"
    · subst c2; cases h; decide +kernel
    rw [if_neg c2] at h
    by_cases c3 : T = "str"
    · subst c3; cases h; decide +kernel
    rw [if_neg c3] at h
    by_cases c4 : T = "tuple"
    · subst c4; cases h; decide +kernel
    rw [if_neg c4] at h
    by_cases c5 : T = "list"
    · subst c5; cases h; decide +kernel
    rw [if_neg c5] at h
    cases h
  | int x =>
    have e := ra.int
    subst e
    refine key "int" (.base (.int x)) ?_
    by_cases c1 : T = "int"
    · subst c1; cases h; decide +kernel
    rw [if_neg c1] at h
    by_cases c2 : T = "bool"
    · subst c2; cases h; decide +kernel
    rw [if_neg c2] at h
    by_cases c3 : T = "str"
    · subst c3; cases h; decide +kernel
    rw [if_neg c3] at h
    by_cases c4 : T = "tuple"
    · subst c4; cases h; decide +kernel
    rw [if_neg c4] at h
    by_cases c5 : T = "list"
    · subst c5; cases h; decide +kernel
    rw [if_neg c5] at h
    cases h
  | str x =>
    have e := ra.str
    subst e
    refine key "str" (.base (.str x)) ?_
    by_cases c1 : T = "int"
    · subst c1; cases h; decide +kernel
    rw [if_neg c1] at h
    by_cases c2 : T = "bool"
    · subst c2; cases h; decide +kernel
    rw [if_neg c2] at h
    by_cases c3 : T = "str"
    · subst c3; cases h; decide +kernel
    rw [if_neg c3] at h
    by_cases c4 : T = "tuple"
    · subst c4; cases h; decide +kernel
    rw [if_neg c4] at h
    by_cases c5 : T = "list"
    · subst c5; cases h; decide +kernel
    rw [if_neg c5] at h
    cases h
  | tup x =>
    obtain ⟨p, vs, rfl, tF, tH, ia⟩ := ra.tup sm
    refine key "tuple" (tyT tH) ?_
    by_cases c1 : T = "int"
    · subst c1; cases h; decide +kernel
    rw [if_neg c1] at h
    by_cases c2 : T = "bool"
    · subst c2; cases h; decide +kernel
    rw [if_neg c2] at h
    by_cases c3 : T = "str"
    · subst c3; cases h; decide +kernel
    rw [if_neg c3] at h
    by_cases c4 : T = "tuple"
    · subst c4; cases h; decide +kernel
    rw [if_neg c4] at h
    by_cases c5 : T = "list"
    · subst c5; cases h; decide +kernel
    rw [if_neg c5] at h
    cases h
  | lst x =>
    obtain ⟨p, vs, rfl, tH, ia⟩ := ra.lst sm
    refine key "list" (.base (.lst tH)) ?_
    by_cases c1 : T = "int"
    · subst c1; cases h; decide +kernel
    rw [if_neg c1] at h
    by_cases c2 : T = "bool"
    · subst c2; cases h; decide +kernel
    rw [if_neg c2] at h
    by_cases c3 : T = "str"
    · subst c3; cases h; decide +kernel
    rw [if_neg c3] at h
    by_cases c4 : T = "tuple"
    · subst c4; cases h; decide +kernel
    rw [if_neg c4] at h
    by_cases c5 : T = "list"
    · subst c5; cases h; decide +kernel
    rw [if_neg c5] at h
    cases h
  | _ =>
    by_cases c1 : T = "int"
    · rw [if_pos c1] at h; cases h
    rw [if_neg c1] at h
    by_cases c2 : T = "bool"
    · rw [if_pos c2] at h; cases h
    rw [if_neg c2] at h
    by_cases c3 : T = "str"
    · rw [if_pos c3] at h; cases h
    rw [if_neg c3] at h
    by_cases c4 : T = "tuple"
    · rw [if_pos c4] at h; cases h
    rw [if_neg c4] at h
    by_cases c5 : T = "list"
    · rw [if_pos c5] at h; cases h
    rw [if_neg c5] at h
    cases h
theorem snd_isi : SndC K mg (rIsi K) isiD := by
  intro F H xs ds z Q sm ra hg G
  unfold isiD at hg
  split at hg
  · rename_i d T
    obtain ⟨b, h1, rfl⟩ := Option.map_eq_some_iff.mp hg
    obtain ⟨v, w, rfl, a, c⟩ := vwA2 ra
    have ec : w = .ty T := by cases c with | of c => cases c; rfl
    subst ec
    obtain ⟨t, ht, hk⟩ := isi_ty sm a h1
    exact ⟨v, .ty T, t, .type T, b, rfl, .ty T, ht, hk, G.1 _ (.bl _)⟩
  · cases hg
end
end GF

set_option maxHeartbeats 2000000
/-! Defs and their calls, what is walked, targets, comprehensions, statements. -/
namespace GF
open PySem PySem.Spec PyProof.Rows L2

/-! ### a def's promise -/
def spD (K : PySem.W.Frag) (mg : Str → Option Value) (n : Nat) (g : List S → Mu → Out S) : Sp := fun vs H Q E => vs.length = n ∧ ∃ m μ ss, Mem K mg m μ H ∧ SAll K mg m ss vs ∧ wpE K mg m (g ss μ) Q E
def eCall (n : Nat) (g : List S → Mu → Out S) (fa : FA) : FE := fun ρ μ => (fa ρ μ).bind fun ss μ1 => if ss.length = n then g ss μ1 else .stk
section
variable {X : Cx} {W : WX} {e : Expr} {es : List Expr} {fa : FA} {p pos : Pos} {k n : Nat} {f : Addr} {fd : FuncData} {ps : List Str} {g : List S → Mu → Out S} {x : Str}
theorem de_call (F : FnOk X.prog X.w X.K X.mg X.base (L2N.CX X.prog X.w) k f fd ps (spD X.K X.mg n g)) (hr : Room k X.A) (hm : X.mg x = some (.ref f)) (hk : PySem.W.keepIn X.K (.ref f) = true) (hb : Binds X.K fd ps []) (tk : L2N.Takes X W) (ha : DA X W (e :: es) fa)
    (hg : Gl X x := by rfl) (hdb : (x == ("__debug__" : Str)) = false := by decide) (he : starEach (e :: es) X.env = (false, eval e X.env) :: starEach es X.env := by rfl) (hpl : (backTo pos (starEach es X.env)).any (·.1) = false := by rfl) :
    DE X W (.Call (.Name x p) (e :: es) [] pos) (eCall n g fa) := by
  obtain ⟨ta, pa, qa⟩ := ha.ex
  refine .in ⟨_, pe_callSD (E := fun σ c d H => W c d σ H) (dvs := []) (ds := []) F hr hg hm hk hb .nil (fun σ => L2N.passAt tk σ) pa hdb he hpl, fun σ H m ρ μ Q M rr h => ?_⟩
  refine qa σ H m ρ μ _ M rr (wpA_bind h fun s v μ H' m' e M' r' h' => ?_)
  split at h'
  · rename_i hl
    rw [List.append_nil]
    exact ⟨by rw [← r'.length]; exact hl, m', μ, s, M', r', h'⟩
  · exact h'.elim
/-- a def without parameters -/
def eCall0 (g : List S → Mu → Out S) : FE := fun _ μ => g [] μ
theorem de_call0 {E : XK} (F : FnOk X.prog X.w X.K X.mg X.base (L2N.CX X.prog X.w) k f fd ps (spD X.K X.mg 0 g)) (hr : Room k X.A) (hm : X.mg x = some (.ref f)) (hk : PySem.W.keepIn X.K (.ref f) = true) (hb : Binds X.K fd ps []) (tk : L2N.Takes X (fun c d _ H => E c d H))
    (hg : Gl X x := by rfl) (hdb : (x == ("__debug__" : Str)) = false := by decide) : DE X (fun c d _ H => E c d H) (.Call (.Name x p) [] [] pos) (eCall0 g) := by
  refine .in ⟨_, pe_call0 (dvs := []) (ds := []) (E := E) F hr hg hm hk hb .nil (L2N.passes_call tk fun _ _ _ _ h => h) hdb, fun σ H m ρ μ Q M rr h => ?_⟩
  exact ⟨rfl, m, μ, [], M, .nil, h⟩
end
def rho0 (N : Nat) (ss : List S) : Rho := ss.map some ++ List.replicate (N - ss.length) none
/-- what is handed back; the def's own cells are forgotten -/
def retS (n : Nat) (s : S) (μ' : Mu) : Out S := match s with
  | .d d => .ok (.d d) (μ'.take n)
  | .c k => if k < n then .ok (.c k) (μ'.take n) else match μ'[k]? with
    | some c => .ok (.c n) (μ'.take n ++ [c])
    | none => .stk
def fnD (N : Nat) (body : FS) : List S → Mu → Out S := fun ss μ => match body (rho0 N ss) μ with
  | .nx _ μ' => .ok (.d .non) (μ'.take μ.length)
  | .rt s μ' => retS μ.length s μ'
  | .exc x _ μ' => .exc x (μ'.take μ.length)
  | _ => .stk
section
variable {K : PySem.W.Frag} {mg : Str → Option Value} {m m' : Mc} {H H' : Hp} {μ μ' : Mu}
/-- the younger cells forgotten -/
theorem Mem.cut (M : Mem K mg m μ H) (M' : Mem K mg m' μ' H') (e : Ext m m') : Ext m { m' with al := m.al } ∧ Mem K mg { m' with al := m.al } (μ'.take μ.length) H' := by
  obtain ⟨β, eb⟩ := e.pre
  refine ⟨⟨⟨[], by simp⟩, e.same, e.fix⟩, M'.sub, M'.fix, fun a o h => ?_, ?_, ?_, fun k a c h1 h2 => ?_, M'.tab, M'.ntb, M'.ntx⟩
  · obtain ⟨q1, q2⟩ := M'.dis a o h
    exact ⟨q1, fun z => q2 (by rw [eb]; exact List.mem_append_left _ z)⟩
  · show m.al.length = _
    rw [List.length_take, M.len]
    have := M'.len
    rw [eb, List.length_append, M.len] at this
    omega
  · have := M'.nd
    rw [eb, List.nodup_append] at this
    exact this.1
  · have hk : k < m.al.length := get_lt h1
    have h2' : μ'[k]? = some c := by
      rw [List.getElem?_take] at h2
      split at h2
      · exact h2
      · cases h2
    exact M'.cell k a c (e.get h1) h2'
theorem SAll.rho {ss : List S} {vs : List V} (r : SAll K mg m ss vs) {N : List Str} (h : vs.length ≤ N.length) : RhoIs K mg m (rho0 N.length ss) (L2.start N vs) := by
  have hl := r.length
  refine ⟨?_, fun i s hi => ?_⟩
  · unfold L2.start rho0
    simp only [List.length_append, List.length_map, List.length_replicate]
    omega
  · unfold rho0 at hi
    unfold L2.start
    have hi2 : i < ss.length := by
      by_cases q : i < ss.length
      · exact q
      · rw [List.getElem?_append_right (by simpa using q), List.getElem?_replicate] at hi
        split at hi <;> cases hi
    rw [List.getElem?_append_left (by simpa using hi2), List.getElem?_map] at hi
    rw [List.getElem?_append_left (by rw [List.length_map, ← hl]; exact hi2), List.getElem?_map]
    have key : ∀ {ss : List S} {vs : List V} (i : Nat), SAll K mg m ss vs → ∀ s, ss[i]? = some s → ∃ v, vs[i]? = some v ∧ SIs K mg m s v := by
      intro ss vs i r
      induction r generalizing i with
      | nil => intro s h; simp at h
      | cons a q ih =>
        intro s h
        cases i with
        | zero => simp at h; subst h; exact ⟨_, rfl, a⟩
        | succ i =>
          obtain ⟨v, h1, h2⟩ := ih i s (by simpa using h)
          exact ⟨v, by simpa using h1, h2⟩
    cases e : ss[i]? with
    | none => rw [e] at hi; cases hi
    | some s' =>
      rw [e] at hi
      cases hi
      obtain ⟨v, h1, h2⟩ := key i r s e
      exact ⟨v, by rw [h1]; rfl, h2⟩
theorem retS_wp {s : S} {Q : V → Hp → Prop} {E : XK} (M : Mem K mg m μ H) (h : wpE K mg m (retS μ.length s μ') Q E) : ∀ v H' m', Ext m m' → Mem K mg m' μ' H' → SIs K mg m' s v → Q v H' := by
  intro v H' m' e M' r
  obtain ⟨e2, M2⟩ := M.cut M' e
  unfold retS at h
  split at h
  · exact h v H' _ e2 M2 r
  · rename_i k
    split at h
    · rename_i hk
      refine h v H' _ e2 M2 ?_
      obtain ⟨a, h1, h2⟩ := r
      refine ⟨a, ?_, h2⟩
      obtain ⟨β, eb⟩ := e.pre
      rw [eb, List.getElem?_append_left (by rw [M.len]; exact hk)] at h1
      exact h1
    · rename_i hk
      split at h
      · rename_i c hc
        obtain ⟨a, h1, h2⟩ := r
        obtain ⟨β, eb⟩ := e.pre
        have na : a ∉ m.al := fun z => by
          obtain ⟨j, hj, ej⟩ := List.mem_iff_getElem.mp z
          have g1 : m'.al[j]? = some a := e.get (by rw [List.getElem?_eq_getElem hj, ej])
          have := nodup_get M'.nd g1 h1
          rw [M.len] at hj
          omega
        refine h v H' { m' with al := m.al ++ [a] } ⟨⟨[a], rfl⟩, e.same, e.fix⟩ ⟨M'.sub, M'.fix, fun b o hb => ?_, ?_, ?_, fun j b c' g1 g2 => ?_, M'.tab, M'.ntb, M'.ntx⟩ ⟨a, ?_, h2⟩
        · obtain ⟨q1, q2⟩ := M2.dis b o hb
          refine ⟨q1, fun z => ?_⟩
          rcases List.mem_append.mp (show b ∈ m.al ++ [a] from z) with z | z
          · exact q2 z
          · have : b = a := by simpa using z
            subst this
            exact (M'.dis b o hb).2 (List.mem_of_getElem? h1)
        · have := M2.len
          show (m.al ++ [a]).length = _
          rw [List.length_append, List.length_append]
          have : m.al.length = (μ'.take μ.length).length := this
          rw [this]; rfl
        · show (m.al ++ [a]).Nodup
          rw [List.nodup_append]
          refine ⟨M.nd, by simp, fun x hx y hy exy => ?_⟩
          have : y = a := by simpa using hy
          subst this; subst exy
          exact na hx
        · have g1 : (m.al ++ [a])[j]? = some b := g1
          have el : m.al.length = (μ'.take μ.length).length := M2.len
          by_cases hj : j < m.al.length
          · rw [List.getElem?_append_left hj] at g1
            rw [List.getElem?_append_left (by rw [← el]; exact hj)] at g2
            exact M2.cell j b c' g1 g2
          · rw [List.getElem?_append_right (by omega)] at g1
            rw [List.getElem?_append_right (by omega)] at g2
            have j0 : j - m.al.length = 0 := by
              cases hz : j - m.al.length with
              | zero => rfl
              | succ n => rw [hz] at g1; simp at g1
            rw [j0] at g1
            rw [← el, j0] at g2
            cases g1; cases g2
            exact M'.cell k a c h1 hc
        · show (m.al ++ [a])[μ.length]? = some a
          rw [← M.len]; simp
      · exact h.elim
end
section
variable {P : Program} {w : World} {K : PySem.W.Frag} {mg : Str → Option Value} {base : Heap}
theorem okN {x qual : Str} {st : Stmt} {f : Addr} {fd : FuncData} {N ps : List Str} {k : Nat} {sp : Sp} (F : Fun K x qual st f fd) (S : FnScope N ps (defScope st)) (hl : ∀ vs H Q E, sp vs H Q E → vs.length = ps.length)
    (hb : ∀ (cdv : Value) (A : Around) (outer : List Env) (s : Shared) (H : Hp) (vs : List V) (Q : VK) (E : XK), Room k (A.deeper (envOfC qual (defScope st) s.heap.objs.size f cdv)) → sp vs H Q E →
      ∃ t, PSs (cxOf (L2N.CX P w) P w K mg base N qual (defScope st) f cdv A outer s H E) (defBody st) t ∧ t { nx := fun _ H' => Q .non H', rt := Q } (L2.start N vs) H) : FnOk P w K mg base (L2N.CX P w) (k + 1) f fd ps sp := by
  obtain ⟨oc, od, kV, doc, pm, an, cdv, ct, osl, rfl, lk, hcd⟩ := F.ex
  exact fn_of lk hcd S hl fun A outer s H vs Q E hr q => hb cdv A outer s H vs Q E hr q
/-- THE RULE for a def -/
theorem fn_ok {x : Str} {st : Stmt} {f : Addr} {fd : FuncData} {N ps : List Str} {k : Nat} {body : FS} (F : Fun K x x st f fd) (S : FnScope N ps (defScope st))
    (h : ∀ (cdv : Value) (A : Around) (outer : List Env) (s : Shared) (H : Hp) (E : XK), Room k (A.deeper (envOfC x (defScope st) s.heap.objs.size f cdv)) → DSs (cxOf (L2N.CX P w) P w K mg base N x (defScope st) f cdv A outer s H E) (fun c d _ H => E c d H) (defBody st) body) :
    FnOk P w K mg base (L2N.CX P w) (k + 1) f fd ps (spD K mg ps.length (fnD N.length body)) := by
  refine okN F S (fun vs H Q E h => h.1) fun cdv A outer s H vs Q E hr hsp => ?_
  obtain ⟨hl, m, μ, ss, M, rs, hw⟩ := hsp
  obtain ⟨t, pt, qt⟩ := (h cdv A outer s H E hr).ex
  have hN : vs.length ≤ N.length := by
    have := congrArg List.length S.pre
    rw [List.length_take] at this
    omega
  refine ⟨t, pt, qt (L2.start N vs) H m (rho0 N.length ss) μ _ M (rs.rho hN) ?_⟩
  unfold fnD at hw
  cases e : body (rho0 N.length ss) μ with
  | stk => rw [e] at hw; exact hw
  | nx ρ μ' =>
    rw [e] at hw
    intro σ' H' m' x M' _
    obtain ⟨e2, M2⟩ := M.cut M' x
    exact hw .non H' _ e2 M2 .non
  | rt s μ' =>
    rw [e] at hw
    exact retS_wp M hw
  | bk ρ μ' => rw [e] at hw; exact hw.elim
  | ct ρ μ' => rw [e] at hw; exact hw.elim
  | exc x ρ μ' =>
    rw [e] at hw
    intro cls d σ' H' m' x M' _ q
    obtain ⟨e2, M2⟩ := M.cut M' x
    exact hw cls d H' _ e2 M2 q
/-- nothing is promised of a def that is called too deep -/
theorem fn_none {f : Addr} {fd : FuncData} {ps : List Str} {k : Nat} : FnOk P w K mg base (L2N.CX P w) k f fd ps (spD K mg ps.length fun _ _ => .stk) :=
  ⟨fun vs H Q E h => h.1, fun A outer s H args us vs Q E _ _ _ _ hsp => by obtain ⟨_, m, μ, ss, M, rs, hw⟩ := hsp; exact hw.elim⟩
/-- another function that gives the same where it gives something -/
theorem fn_as {f : Addr} {fd : FuncData} {ps : List Str} {k n : Nat} {g g' : List S → Mu → Out S} (F : FnOk P w K mg base (L2N.CX P w) k f fd ps (spD K mg n g)) (h : ∀ ss μ, g' ss μ = .stk ∨ g ss μ = g' ss μ) : FnOk P w K mg base (L2N.CX P w) k f fd ps (spD K mg n g') :=
  F.imp fun vs H Q E ⟨hl, m, μ, ss, M, rs, hw⟩ => ⟨hl, m, μ, ss, M, rs, by
    rcases h ss μ with z | z
    · rw [z] at hw; exact hw.elim
    · rw [z]; exact hw⟩
end

/-! ### what is walked -/
section
variable {X : Cx} {W : WX} {e e2 tg : Expr} {es : List Expr} {f : FE} {fa : FA} {p pos : Pos} {K : PySem.W.Frag} {mg : Str → Option Value}
theorem walks_list {a : Addr} {l : List D} {vs : List V} {F : Hp} (h : F a = some (.lst vs)) (r : IsA K mg F l vs) : Walks K mg (Itl K a) l F := by
  refine ⟨fun i H F2 s1 s2 hi => ?_, fun i H F2 s1 s2 hi => ⟨vs, SqL.of (s2 _ _ (s1 _ _ h)), by rw [← r.length]; exact hi⟩, fun i H m2 μ x H' d s1 M hd y => ?_⟩
  · refine ⟨vs, vs[i]'(by rw [← r.length]; exact hi), SqL.of (s2 _ _ (s1 _ _ h)), by simp [r.length ▸ hi]⟩
  · obtain ⟨rfl, y⟩ := y
    obtain ⟨v, h1, h2⟩ := r.get hd
    have := y vs (SqL.of (M.sub _ _ (s1 _ _ h)))
    rw [h1] at this
    cases this
    exact ⟨m2, .refl, M, h2.mono s1⟩
theorem walks_tup {a : Addr} {l : List D} {vs : List V} {F : Hp} (h : SqT K F a vs) (r : IsA K mg F l vs) : Walks K mg (Itt K a) l F := by
  refine ⟨fun i H F2 s1 s2 hi => ?_, fun i H F2 s1 s2 hi => ⟨vs, Same.sqt s2 (Same.sqt s1 h), by rw [← r.length]; exact hi⟩, fun i H m2 μ x H' d s1 M hd y => ?_⟩
  · refine ⟨vs, vs[i]'(by rw [← r.length]; exact hi), Same.sqt s2 (Same.sqt s1 h), by simp [r.length ▸ hi]⟩
  · obtain ⟨rfl, y⟩ := y
    obtain ⟨v, h1, h2⟩ := r.get hd
    have := y vs (Same.sqt M.sub (Same.sqt s1 h))
    rw [h1] at this
    cases this
    exact ⟨m2, .refl, M, h2.mono s1⟩
def upD (lo : Int) : Nat → List D
  | 0 => []
  | n + 1 => .int lo :: upD (lo + 1) n
theorem upD_len : ∀ (n : Nat) (lo : Int), (upD lo n).length = n
  | 0, _ => rfl
  | n + 1, lo => by unfold upD; rw [List.length_cons, upD_len n]
theorem upD_get : ∀ (n i : Nat) (lo : Int), i < n → (upD lo n)[i]? = some (.int (lo + i))
  | n + 1, 0, lo, _ => by unfold upD; simp
  | n + 1, i + 1, lo, h => by
    unfold upD
    rw [List.getElem?_cons_succ, upD_get n i (lo + 1) (by omega)]
    congr 2
    omega
theorem walks_range {lo : Int} {n : Nat} {F : Hp} : Walks K mg (Itr lo n) (upD lo n) F := by
  refine ⟨fun i H F2 s1 s2 hi => by rw [upD_len] at hi; exact hi, fun i H F2 s1 s2 hi => by rw [upD_len] at hi; exact hi, fun i H m2 μ x H' d s1 M hd y => ?_⟩
  obtain ⟨rfl, rfl⟩ := y
  have hi : i < n := by
    have := get_lt hd
    rw [upD_len] at this; exact this
  rw [upD_get n i lo hi] at hd
  cases hd
  exact ⟨m2, .refl, M, .int _⟩
/-- a list or a tuple, whichever it is -/
def iAny (K : PySem.W.Frag) (tl : TE) : TI := fun σ H R => tl σ H fun x H1 => ∃ a, x = .ref a ∧ (((∃ xs, SqL K H1 a xs) ∧ R (Itl K a) H1) ∨ ((∃ xs, SqT K H1 a xs) ∧ R (Itt K a) H1))
theorem pi_any {l : Expr} {tl : TE} (hl : PE X l tl) : PI X tg l (iAny X.K tl) := by
  refine ⟨fun pins s σ H R I h => ?_⟩
  refine thn (hl.run pins s σ H _ I h) fun v s1 ⟨x, H1, I1, r1, q1⟩ => ?_
  obtain ⟨a, e, q⟩ := q1
  subst e
  cases r1
  rcases q with ⟨⟨xs, hq⟩, q⟩ | ⟨⟨xs, hq⟩, q⟩
  · obtain ⟨its, rv, p, hz⟩ := I1.list hq
    refine wpAny_pyIter_list p.isList ?_
    refine ⟨s1.heap.objs.size, [s1.heap.objs.size], _, _, H1, rfl, I1.kept (t' := s1.toks) fun b o e => Heap.get?_push_of_some _ e, turn_list a _, ⟨_, Heap.get?_push_size _ rfl, rfl, rfl⟩, fun b hb => ?_, q⟩
    have e : b = s1.heap.objs.size := by simpa using hb
    subst e
    exact I1.fpOk (Nat.le_refl _) (I1.hok.fresh (Nat.le_refl _))
  · obtain ⟨its, rv, p, hz⟩ := I1.tuple hq
    refine wpAny_pyIter_tuple (show s1.heap.IsTuple a its.toArray from p) ?_
    refine ⟨s1.heap.objs.size, [s1.heap.objs.size], _, _, H1, rfl, I1.kept (t' := s1.toks) fun b o e => Heap.get?_push_of_some _ e, turn_tuple a _, ⟨_, Heap.get?_push_size _ rfl, rfl, rfl⟩, fun b hb => ?_, q⟩
    have e : b = s1.heap.objs.size := by simpa using hb
    subst e
    exact I1.fpOk (Nat.le_refl _) (I1.hok.fresh (Nat.le_refl _))
def seqOf (s : S) (μ : Mu) : Out (List D) := match s with
  | .d (.lst l) => .ok l μ
  | .d (.tup l) => .ok l μ
  | _ => .stk
def iSeq (f : FE) : FI := fun ρ μ => (f ρ μ).bind seqOf
theorem di_seq (he : DE X W e f) : DI X W tg e (iSeq f) := by
  obtain ⟨te, pe, qe⟩ := he.ex
  refine .in ⟨_, pi_any pe, fun σ H m ρ μ R M rr h => qe σ H m ρ μ _ M rr ?_⟩
  have h : wpI X.K X.mg m ((f ρ μ).bind seqOf) R _ := h
  cases e1 : f ρ μ with
  | stk => rw [e1] at h; exact h
  | exc x μ' => rw [e1] at h; exact h
  | ok s μ1 =>
    rw [e1] at h
    intro v H1 m1 x1 M1 r1
    have h : wpI X.K X.mg m (seqOf s μ1) R _ := h
    cases s with
    | c k => exact h.elim
    | d d =>
      cases d with
      | lst l =>
        have r1 : Is X.K X.mg m1.fr (.lst l) v := r1
        cases r1 with
        | lst ha ia => exact ⟨_, rfl, .inl ⟨⟨_, SqL.of (M1.sub _ _ ha)⟩, h _ H1 m1 x1 M1 (walks_list ha ia)⟩⟩
      | tup l =>
        have r1 : Is X.K X.mg m1.fr (.tup l) v := r1
        cases r1 with
        | tup ha ia => exact ⟨_, rfl, .inr ⟨⟨_, Same.sqt M1.sub ha⟩, h _ H1 m1 x1 M1 (walks_tup ha ia)⟩⟩
      | _ => exact h.elim
def bigR (j : Int) : Prop := -(2 ^ 62) ≤ j ∧ j < 2 ^ 62
instance (j : Int) : Decidable (bigR j) := by unfold bigR; infer_instance
def rng1 (ss : List S) (μ : Mu) : Out (List D) := match ss with
  | [.d (.int j)] => if bigR j then .ok (upD 0 j.toNat) μ else .stk
  | _ => .stk
def rng2 (ss : List S) (μ : Mu) : Out (List D) := match ss with
  | [.d (.int i), .d (.int j)] => if bigR i ∧ bigR j then .ok (upD i (j - i).toNat) μ else .stk
  | _ => .stk
def iRange1 (fa : FA) : FI := fun ρ μ => (fa ρ μ).bind rng1
def iRange2 (fa : FA) : FI := fun ρ μ => (fa ρ μ).bind rng2
theorem wpA_bindI {m : Mc} {o : Out (List S)} {k : List S → Mu → Out (List D)} {R : It → Hp → Prop} {Q' : List V → Hp → Prop} {E : XK} (h : wpI K mg m (o.bind k) R E)
    (hk : ∀ s v μ H' m', Ext m m' → Mem K mg m' μ H' → SAll K mg m' s v → (∀ l μ2, k s μ = .ok l μ2 → ∀ J H2 m2, Ext m' m2 → Mem K mg m2 μ2 H2 → Walks K mg J l m2.fr → R J H2) → (∃ l μ2, k s μ = .ok l μ2) → Q' v H') (hx : ∀ s μ x μ', k s μ ≠ .exc x μ') : wpA K mg m o Q' E := by
  cases o with
  | stk => exact h
  | exc x μ => exact h
  | ok b μ =>
    intro v H' m' e M r
    have h : wpI K mg m (k b μ) R E := h
    cases e1 : k b μ with
    | stk => rw [e1] at h; exact h.elim
    | exc x μ' => exact absurd e1 (hx _ _ _ _)
    | ok l μ2 =>
      rw [e1] at h
      refine hk b v μ H' m' e M r (fun l' μ2' z J H2 m2 e2 M2 w2 => ?_) ⟨l, μ2, e1⟩
      rw [e1] at z
      cases z
      exact h J H2 m2 (e.trans e2) M2 w2
theorem rng1_nx {ss : List S} {μ : Mu} {x : Exn} {μ' : Mu} : rng1 ss μ ≠ .exc x μ' := by
  intro z
  unfold rng1 at z
  split at z
  · split at z <;> cases z
  · cases z
theorem rng2_nx {ss : List S} {μ : Mu} {x : Exn} {μ' : Mu} : rng2 ss μ ≠ .exc x μ' := by
  intro z
  unfold rng2 at z
  split at z
  · split at z <;> cases z
  · cases z
theorem di_range1 (hm : X.mg "range" = none) (ha : DA X W [e] fa) (hg : Gl X "range" := by rfl) (hs : starEach [e] X.env = [(false, eval e X.env)] := by rfl) : DI X W tg (.Call (.Name "range" p) [e] [] pos) (iRange1 fa) := by
  obtain ⟨ta, pa, qa⟩ := ha.ex
  refine .in ⟨_, pi_range1 hg hm pa hs, fun σ H m ρ μ R M rr h => qa σ H m ρ μ _ M rr (wpA_bindI h (fun s v μ H' m' e M' r' hk hz => ?_) fun s μ x μ' => rng1_nx)⟩
  obtain ⟨l, μ2, hl⟩ := hz
  have hk := hk l μ2 hl
  unfold rng1 at hl
  split at hl
  · rename_i j
    split at hl
    · rename_i hj
      cases hl
      cases r' with
      | cons a q =>
        cases q
        cases (show Is X.K X.mg m'.fr (.int j) _ from a)
        exact ⟨j, rfl, hj.1, hj.2, hk _ H' m' .refl M' walks_range⟩
    · cases hl
  · cases hl
theorem di_range2 (hm : X.mg "range" = none) (ha : DA X W [e, e2] fa) (hg : Gl X "range" := by rfl) (hs : starEach [e, e2] X.env = [(false, eval e X.env), (false, eval e2 X.env)] := by rfl) (hs2 : starEach [e2] X.env = [(false, eval e2 X.env)] := by rfl) : DI X W tg (.Call (.Name "range" p) [e, e2] [] pos) (iRange2 fa) := by
  obtain ⟨ta, pa, qa⟩ := ha.ex
  refine .in ⟨_, pi_range2 hg hm pa hs hs2, fun σ H m ρ μ R M rr h => qa σ H m ρ μ _ M rr (wpA_bindI h (fun s v μ H' m' e M' r' hk hz => ?_) fun s μ x μ' => rng2_nx)⟩
  obtain ⟨l, μ2, hl⟩ := hz
  have hk := hk l μ2 hl
  unfold rng2 at hl
  split at hl
  · rename_i i j
    split at hl
    · rename_i hj
      cases hl
      cases r' with
      | cons a q =>
        cases q with
        | cons b q =>
          cases q
          cases (show Is X.K X.mg m'.fr (.int i) _ from a)
          cases (show Is X.K X.mg m'.fr (.int j) _ from b)
          exact ⟨i, j, rfl, ⟨hj.1.1, hj.1.2, hj.2.1, hj.2.2⟩, hk _ H' m' .refl M' walks_range⟩
    · cases hl
  · cases hl

/-! ### targets -/
theorem agree_set {js : List Nat} {σ : L2.St} {i : Nat} {v : V} (h : i ∈ js) : Agree js σ (σ.set i (some v)) := ⟨by simp, fun j hj => by rw [List.getElem?_set_ne (fun z : i = j => hj (by rw [← z]; exact h))]⟩
theorem Agree.trans {js : List Nat} {σ σ1 σ2 : L2.St} (a : Agree js σ σ1) (b : Agree js σ1 σ2) : Agree js σ σ2 := ⟨b.1.trans a.1, fun i hi => (b.2 i hi).trans (a.2 i hi)⟩
def gN (i : Nat) : D → Rho → Option Rho := fun d ρ => some (ρ.set i (some (.d d)))
theorem dg_name {js : List Nat} {i : Nat} {x : Str} (hN : X.N.Nodup) (hi : X.N[i]? = some x) (hx : Loc X.env.scope x) (hj : i ∈ js) (hf : X.fn x = true ∨ X.env.scope.names.lookup x = some .local := by first | exact .inl rfl | exact .inr rfl | assumption) : DG X js (.Name x pos) (gN i) := by
  refine ⟨⟨fun pins s σ H v u Q I r h => ?_⟩⟩
  obtain ⟨m, μ, ρ, d, ρ', M, rr, rd, e, h⟩ := h
  cases e
  exact (pg_name hN hi hx hf).run pins s σ H v u Q I r (h _ (rr.set i (s := .d d) rd) (agree_set hj))
def gsN : List D → Rho → Option Rho
  | [], ρ => some ρ
  | _, _ => none
def gsC (t : D → Rho → Option Rho) (u : List D → Rho → Option Rho) : List D → Rho → Option Rho
  | d :: l, ρ => (t d ρ).bind (u l)
  | [], _ => none
theorem dgs_nil {js : List Nat} : DGs X js [] gsN := by
  refine ⟨⟨fun pins s σ H vs us Q I r h => ?_⟩⟩
  obtain ⟨m, μ, ρ, d, ρ', M, rr, rd, e, h⟩ := h
  cases rd with
  | nil =>
    cases e
    exact pgs_nil.run pins s σ H [] us Q I r ⟨rfl, h σ rr ⟨rfl, fun _ _ => rfl⟩⟩
  | cons _ _ => cases e
theorem dgs_cons {js : List Nat} {t : D → Rho → Option Rho} {u : List D → Rho → Option Rho} (h1 : DG X js e t) (h2 : DGs X js es u) (hs : (assignEach (e :: es) X.env).map (·.2) = assign e X.env :: (assignEach es X.env).map (·.2) := by rfl) : DGs X js (e :: es) (gsC t u) := by
  refine ⟨⟨fun pins s σ H vs us Q I r h => ?_⟩⟩
  obtain ⟨m, μ, ρ, d, ρ', M, rr, rd, e, h⟩ := h
  cases rd with
  | nil => cases e
  | cons a q =>
    rename_i d0 l0 v0 vs0
    have e : (t d0 ρ).bind (u l0) = some ρ' := e
    cases e1 : t d0 ρ with
    | none => rw [e1] at e; cases e
    | some ρ1 =>
      rw [e1] at e
      have e : u l0 ρ1 = some ρ' := e
      refine (pgs_cons h1.pe h2.pe hs).run pins s σ H _ us Q I r ⟨_, _, rfl, m, μ, ρ, d0, ρ1, M, rr, a, e1, fun σ1 r1 g1 => ?_⟩
      exact ⟨m, μ, ρ1, l0, ρ', M, r1, q, e, fun σ2 r2 g2 => h σ2 r2 (g1.trans g2)⟩
def gT (n : Nat) (u : List D → Rho → Option Rho) : D → Rho → Option Rho
  | .tup l, ρ => if l.length = n then u l ρ else none
  | _, _ => none
theorem dg_tup {js : List Nat} {k n : Nat} {u : List D → Rho → Option Rho} (hc : X.calm = true) (h : DGs X js es u) (hn : (assignEach es X.env).length = n := by rfl) (hst : (assignEach es X.env).findIdx? (·.1) = none := by rfl) : DG X js (.Tuple es k pos) (gT n u) := by
  refine ⟨⟨fun pins s σ H v w Q I r h' => ?_⟩⟩
  obtain ⟨m, μ, ρ, d, ρ', M, rr, rd, e, h'⟩ := h'
  unfold gT at e
  split at e
  · rename_i l
    split at e
    · rename_i hl
      cases rd with
      | tup ha ia =>
        exact (pg_tup hc h.pe hn hst).run pins s σ H _ w Q I r ⟨_, _, rfl, Same.sqt M.sub ha, by rw [← ia.length]; exact hl, m, μ, ρ, l, ρ', M, rr, ia, e, h'⟩
    · cases e
  · cases e
end
end GF

set_option maxHeartbeats 2000000
/-! Comprehensions; statements. -/
namespace GF
open PySem PySem.Spec PyProof.Rows L2

/-! ### comprehensions -/
structure DTs (X : Cx) (W : WX) (ifs : List Expr) (f : FB) : Prop where
  pe : PTs X ifs (tT X.K X.mg W f)
def bYes : FB := fun _ μ => .ok true μ
def wipeR (ρ : Rho) : List Nat → Rho
  | [] => ρ
  | v :: vs => (wipeR ρ vs).set v none
/-- the turns of a comprehension: nothing is raised in them -/
def lcD (t : D → Rho → Option Rho) (ft : FB) (fe : FE) (ρ : Rho) : List D → Mu → Out (List D)
  | [], μ => .ok [] μ
  | x :: xs, μ => match t x ρ with
    | none => .stk
    | some ρ1 => match ft ρ1 μ with
      | .ok true μ1 => (match fe ρ1 μ1 with
        | .ok (.d d) μ2 => (match lcD t ft fe ρ xs μ2 with
          | .ok l μ3 => .ok (d :: l) μ3
          | _ => .stk)
        | _ => .stk)
      | .ok false μ1 => lcD t ft fe ρ xs μ1
      | _ => .stk
def mkL (l : List D) (μ : Mu) : Out S := .ok (.d (.lst l)) μ
def eLc (fi : FI) (t : D → Rho → Option Rho) (ft : FB) (fe : FE) (vs : List Nat) : FE := fun ρ μ => (fi ρ μ).bind fun l μ1 => if l.length ≤ cap then (lcD t ft fe (wipeR ρ vs) l μ1).bind mkL else .stk
section
variable {X : Cx} {W : WX} {K : PySem.W.Frag} {mg : Str → Option Value}
theorem dts_nil : DTs X W [] bYes := ⟨⟨fun pins s σ H Q I h => by
  obtain ⟨m, ρ, μ, M, rr, h⟩ := h
  exact pts_nil.run pins s σ H Q I (h H m .refl M)⟩⟩
theorem dts_one {c : Expr} {f : FB} (h : DT X W c f) : DTs X W [c] f := ⟨pts_one h.pe⟩
theorem RhoIs.wipe {m : Mc} {ρ : Rho} {σ : L2.St} (h : RhoIs K mg m ρ σ) : ∀ vs : List Nat, RhoIs K mg m (wipeR ρ vs) (wipe σ vs)
  | [] => h
  | v :: vs => (h.wipe vs).unset v
theorem wipe_in {σ : L2.St} {i : Nat} : ∀ {vs : List Nat}, i ∈ vs → i < σ.length → (wipe σ vs)[i]? = some none
  | v :: vs, h, hl => by
    unfold wipe
    by_cases e : v = i
    · subst e
      rw [List.getElem?_set_self (by rw [wipe_length]; exact hl)]
    · rw [List.getElem?_set_ne e]
      rcases List.mem_cons.mp h with z | z
      · exact absurd z.symm e
      · exact wipe_in z hl
theorem wipe_agree {js vs : List Nat} {σ σ2 : L2.St} (a : Agree js (wipe σ vs) σ2) (h : ∀ j ∈ js, j ∈ vs) : wipe σ2 vs = wipe σ vs := by
  have hl : σ2.length = σ.length := by rw [a.1, wipe_length]
  apply List.ext_getElem?
  intro i
  by_cases hi : i ∈ vs
  · by_cases hb : i < σ.length
    · rw [wipe_in hi hb, wipe_in hi (by rw [hl]; exact hb)]
    · rw [List.getElem?_eq_none (by rw [wipe_length]; omega), List.getElem?_eq_none (by rw [wipe_length]; omega)]
  · rw [wipe_out hi]
    exact a.2 i fun z => hi (h i z)
theorem Mem.unhold {m : Mc} {μ : Mu} {H : Hp} {fx : Hp} {p : Addr} {o : HO} (M : Mem K mg m μ H) (e : m.fx = upd fx p o) (h : fx p = none) (hx : ∀ b ps, fx b ≠ some (.tbl ps)) : Mem K mg { m with fx := fx } μ H ∧ m.fr p = none ∧ p ∉ m.al ∧ H p = some o := by
  have at_ : m.fx p = some o := by rw [e, upd_same]
  refine ⟨⟨M.sub, fun b x q => ?_, fun b x q => ?_, M.len, M.nd, M.cell, M.tab, M.ntb, hx⟩, (M.dis p o at_).1, (M.dis p o at_).2, M.fix _ _ at_⟩
  · exact M.fix b x (by rw [e, upd_ne (ne_of_none q h)]; exact q)
  · exact M.dis b x (by rw [e, upd_ne (ne_of_none q h)]; exact q)
theorem RhoIs.same {m m' : Mc} {ρ : Rho} {σ : L2.St} (h : RhoIs K mg m ρ σ) (e1 : m'.al = m.al) (e2 : m'.fr = m.fr) : RhoIs K mg m' ρ σ := by
  refine ⟨h.len, fun i s hi => ?_⟩
  obtain ⟨v, h1, h2⟩ := h.has i s hi
  refine ⟨v, h1, ?_⟩
  cases s with
  | d d => show Is K mg m'.fr d v; rw [e2]; exact h2
  | c k => obtain ⟨a, q1, q2⟩ := h2; exact ⟨a, by rw [e1]; exact q1, q2⟩
def mkLs (ys l : List D) (μ : Mu) : Out S := .ok (.d (.lst (ys ++ l))) μ
def LcW (K : PySem.W.Frag) (mg : Str → Option Value) (m1 : Mc) (L : Addr) (R : Mc → Mu → List D → Prop) (i : Nat) (H' : Hp) : Prop :=
  ∃ mA μA ys vsD, Ext m1 mA ∧ Mem K mg mA μA H' ∧ mA.fr L = none ∧ L ∉ mA.al ∧ mA.fx L = none ∧ H' L = some (.lst vsD) ∧ IsA K mg mA.fr ys vsD ∧ ys.length ≤ i ∧ R mA μA ys
/-- the reading of a comprehension -/
theorem lc_sound {fi : FI} {t : D → Rho → Option Rho} {ft : FB} {fe : FE} {vs js : List Nat} (hj : ∀ j ∈ js, j ∈ vs) {σ : L2.St} {H : Hp} {m : Mc} {ρ : Rho} {μ : Mu} {Q : V → Hp → Prop} (M : Mem K mg m μ H) (rr : RhoIs K mg m ρ σ)
    (h : wpE K mg m (eLc fi t ft fe vs ρ μ) Q (fun c d H' => W c d σ H')) :
    tLc (tI K mg W fi) (tG K mg js t) (tT K mg (fun _ _ _ _ => False) ft) (tE K mg (fun _ _ _ _ => False) fe) vs σ H Q := by
  unfold tLc
  refine ⟨m, ρ, μ, M, rr, ?_⟩
  have h : wpE K mg m ((fi ρ μ).bind fun l μ1 => if l.length ≤ cap then (lcD t ft fe (wipeR ρ vs) l μ1).bind mkL else .stk) Q _ := h
  cases e1 : fi ρ μ with
  | stk => rw [e1] at h; exact h
  | exc x μ' => rw [e1] at h; exact h
  | ok items μ1 =>
    rw [e1] at h
    intro J H1 m1 x1 M1 wk L hL
    have h : wpE K mg m (if items.length ≤ cap then (lcD t ft fe (wipeR ρ vs) items μ1).bind mkL else .stk) Q _ := h
    split at h
    case isFalse => exact h.elim
    rename_i hcap
    have h := h.mono x1
    have rw1 := (rr.mono x1).wipe vs
    refine ⟨fun i msr H' => msr = items.length - i ∧ i ≤ items.length ∧ LcW K mg m1 L (fun mA μA ys => wpE K mg mA ((lcD t ft fe (wipeR ρ vs) (items.drop i) μA).bind (mkLs ys)) Q (fun c d H' => W c d σ H')) i H',
      ⟨items.length, rfl, Nat.zero_le _, m1, μ1, [], [], .refl, M1.side (M1.free hL) (M1.nin hL) (M1.fix.free hL) (by rw [hL]; exact loose_none), M1.free hL, M1.nin hL, M1.fix.free hL, upd_same, .nil, Nat.le_refl _, ?_⟩, ?_⟩
    · rw [List.drop_zero]; exact h
    · rintro i msr H2 ⟨rfl, hi, mA, μA, ys, vsD, xA, MA, nf, na, nx, hDl, ia, hy, hw⟩
      by_cases hlt : i < items.length
      · refine .inr ⟨wk.go i H2 mA.fr xA.same MA.sub hlt, fun H' => LcW K mg m1 L (fun mA μA ys => wpE K mg mA ((lcD t ft fe (wipeR ρ vs) (items.drop (i + 1)) μA).bind (mkLs ys)) Q (fun c d H' => W c d σ H')) (i + 1) H',
          fun H' q => ⟨items.length - (i + 1), by omega, rfl, hlt, q⟩, fun x H3 hyl => ?_⟩
        have hd : items[i]? = some items[i] := List.getElem?_eq_getElem hlt
        have MAh := MA.hold hDl nf na
        obtain ⟨m3, x3, M3, is3⟩ := wk.yld i H2 _ μA x H3 _ (show Same m1.fr (mA.hold L (.lst vsD)).fr from xA.same) MAh hd hyl
        have rwA : RhoIs K mg (mA.hold L (.lst vsD)) (wipeR ρ vs) (wipe σ vs) := (rw1.mono xA).same rfl rfl
        have rw3 := rwA.mono x3
        rw [List.drop_eq_getElem_cons hlt] at hw
        -- what is reached behind the turn
        have fin : ∀ (m5 : Mc) (μ5 : Mu) (H5 : Hp), Ext (mA.hold L (.lst vsD)) m5 → Mem K mg m5 μ5 H5 → Ext mA { m5 with fx := mA.fx } ∧ Mem K mg { m5 with fx := mA.fx } μ5 H5 ∧ m5.fr L = none ∧ L ∉ m5.al ∧ H5 L = some (.lst vsD) := fun m5 μ5 H5 x5 M5 => by
          obtain ⟨q1, q2, q3, q4⟩ := M5.unhold (fx := mA.fx) x5.fix nx MA.ntx
          exact ⟨⟨x5.pre, x5.same, rfl⟩, q1, q2, q3, q4⟩
        cases et : t items[i] (wipeR ρ vs) with
        | none =>
          unfold lcD at hw
          rw [et] at hw
          exact hw.elim
        | some ρ1 =>
          unfold lcD at hw
          rw [et] at hw
          refine ⟨m3, μA, wipeR ρ vs, _, ρ1, M3, rw3, is3, et, fun σ2 r2 ag => ⟨wipe_agree ag hj, m3, ρ1, μA, M3, r2, ?_⟩⟩
          dsimp only at hw
          cases eb : ft ρ1 μA with
          | stk => rw [eb] at hw; exact hw.elim
          | exc x μ' => rw [eb] at hw; exact hw.elim
          | ok b μ4 =>
            rw [eb] at hw
            intro H4 m4 x4 M4
            cases b with
            | false =>
              rw [if_neg Bool.false_ne_true]
              obtain ⟨q1, q2, q3, q4, q5⟩ := fin m4 μ4 H4 (x3.trans x4) M4
              exact ⟨_, μ4, ys, vsD, xA.trans q1, q2, q3, q4, nx, q5, ia.mono q1.same, by omega, wpE.mono q1 hw⟩
            | true =>
              rw [if_pos rfl]
              refine ⟨m4, ρ1, μ4, M4, r2.mono x4, ?_⟩
              dsimp only at hw
              cases ee : fe ρ1 μ4 with
              | stk => rw [ee] at hw; exact hw.elim
              | exc x μ' => rw [ee] at hw; exact hw.elim
              | ok s μ5 =>
                rw [ee] at hw
                intro y H5 m5 x5 M5 r5
                cases s with
                | c k => exact hw.elim
                | d d =>
                  obtain ⟨q1, q2, q3, q4, q5⟩ := fin m5 μ5 H5 ((x3.trans x4).trans x5) M5
                  have iy : IsA K mg m5.fr (ys ++ [d]) (vsD ++ [y]) := (ia.mono q1.same).append (.cons r5 .nil)
                  refine ⟨vsD, q5, ?_, _, μ5, ys ++ [d], vsD ++ [y], xA.trans q1, q2.side q3 q4 nx (by rw [q5]; exact loose_lst), q3, q4, nx, upd_same, iy, by rw [List.length_append]; simp; omega, ?_⟩
                  · rw [← ia.length, sizeLine_eq]
                    unfold cap at hcap
                    omega
                  · dsimp only at hw
                    show wpE K mg _ ((lcD t ft fe (wipeR ρ vs) (items.drop (i + 1)) μ5).bind (mkLs (ys ++ [d]))) Q _
                    cases el : lcD t ft fe (wipeR ρ vs) (items.drop (i + 1)) μ5 with
                    | stk => rw [el] at hw; exact hw.elim
                    | exc x μ' => rw [el] at hw; exact hw.elim
                    | ok l μ6 =>
                      rw [el] at hw
                      have hw : wpE K mg mA (mkLs ys (d :: l) μ6) Q (fun c d H' => W c d σ H') := hw
                      show wpE K mg { m5 with fx := mA.fx } (mkLs (ys ++ [d]) l μ6) Q _
                      have e2 : mkLs (ys ++ [d]) l μ6 = mkLs ys (d :: l) μ6 := by unfold mkLs; simp
                      rw [e2]
                      exact wpE.mono q1 hw
      · refine .inl ⟨wk.stop i H2 mA.fr xA.same MA.sub (by omega), ?_⟩
        rw [List.drop_of_length_le (by omega)] at hw
        have hw : wpE K mg mA (.ok (.d (.lst (ys ++ []))) μA) Q _ := hw
        rw [List.append_nil] at hw
        exact hw _ _ (mA.add L _) (ext_add nf _) (MA.settle hDl nf na nx) (.lst upd_same (ia.mono (same_add nf _)))
theorem de_lc {vs : List Nat} {elt tg iter : Expr} {ifs : List Expr} {scope : Scope} {own : List (Str × Nat)} {pos : Pos} {fi : FI} {t : D → Rho → Option Rho} {ft : FB} {fe : FE} {js : List Nat} (hc : X.calm = true) (hN : X.N.Nodup) (hi : DI X W tg iter fi) (ok : BlkOk X.N X.env.scope scope own)
    (hg : ∀ (s : Shared) (H : Hp) (C : Addr) (cl : List (Str × Addr)) (fp : List Addr), DG (X.blk s H scope (compEnvC scope cl C X.env) fp) js tg t) (ht : ∀ (s : Shared) (H : Hp) (C : Addr) (cl : List (Str × Addr)) (fp : List Addr), DTs (X.blk s H scope (compEnvC scope cl C X.env) fp) (fun _ _ _ _ => False) ifs ft)
    (he : ∀ (s : Shared) (H : Hp) (C : Addr) (cl : List (Str × Addr)) (fp : List Addr), DE (X.blk s H scope (compEnvC scope cl C X.env) fp) (fun _ _ _ _ => False) elt fe) (hv : own.map (·.2) = vs) (hj : ∀ j ∈ js, j ∈ vs) (hs : ∀ x, foldedSetIterable iter X.env x = pure x := by intro _; rfl) :
    DE X W (.ListComp elt [⟨tg, iter, ifs, 0⟩] scope pos) (eLc fi t ft fe vs) := by
  subst hv
  exact .in ⟨_, pe_lc hc hN hi.pe ok (fun s H C cl fp => (hg s H C cl fp).pe) (fun s H C cl fp => (ht s H C cl fp).pe) (fun s H C cl fp => (he s H C cl fp).pe) hs, fun σ H m ρ μ Q M rr h => lc_sound hj M rr h⟩
end

/-! ### statements -/
def sNil : FS := fun ρ μ => .nx ρ μ
def sSeq (f g : FS) : FS := fun ρ μ => match f ρ μ with
  | .nx ρ' μ' => g ρ' μ'
  | o => o
/-- an expression's end as a statement's -/
def toS (o : Out S) (ρ : Rho) (k : S → Mu → SO) : SO := match o with
  | .stk => .stk
  | .ok s μ => k s μ
  | .exc x μ => .exc x ρ μ
def sRet (f : FE) : FS := fun ρ μ => toS (f ρ μ) ρ fun s μ' => .rt s μ'
def sRetN : FS := fun _ μ => .rt (.d .non) μ
def sExpr (f : FE) : FS := fun ρ μ => toS (f ρ μ) ρ fun _ μ' => .nx ρ μ'
def sSet (i : Nat) (f : FE) : FS := fun ρ μ => toS (f ρ μ) ρ fun s μ' => .nx (ρ.set i (some s)) μ'
def toSB (o : Out Bool) (ρ : Rho) (k : Bool → Mu → SO) : SO := match o with
  | .stk => .stk
  | .ok s μ => k s μ
  | .exc x μ => .exc x ρ μ
def sIf (c : FB) (f g : FS) : FS := fun ρ μ => toSB (c ρ μ) ρ fun b μ' => if b = true then f ρ μ' else g ρ μ'
def toSA (o : Out (List S)) (ρ : Rho) (k : List S → Mu → SO) : SO := match o with
  | .stk => .stk
  | .ok s μ => k s μ
  | .exc x μ => .exc x ρ μ
def sPar (i j : Nat) (fa : FA) : FS := fun ρ μ => toSA (fa ρ μ) ρ fun ss μ' => match ss with
  | [a, b] => .nx ((ρ.set i (some a)).set j (some b)) μ'
  | _ => .stk
/-- a, b = e -/
def sAsg (t : D → Rho → Option Rho) (f : FE) : FS := fun ρ μ => toS (f ρ μ) ρ fun s μ' => match s with
  | .d d => (match t d ρ with
    | some ρ' => .nx ρ' μ'
    | none => .stk)
  | _ => .stk
section
variable {X : Cx} {W : WX} {st : Stmt} {rest : List Stmt} {f g : FS} {fe : FE} {fb : FB} {fa : FA} {e c : Expr} {pos : Pos} {sts sts2 : List Stmt}
theorem toS_wp {K : PySem.W.Frag} {mg : Str → Option Value} {m : Mc} {o : Out S} {ρ : Rho} {σ : L2.St} {k : S → Mu → SO} {D : Ends} {Q : V → Hp → Prop} (rr : RhoIs K mg m ρ σ) (h : wpS K mg m (toS o ρ k) D W)
    (hk : ∀ s v μ H' m', Ext m m' → Mem K mg m' μ H' → SIs K mg m' s v → wpS K mg m' (k s μ) D W → Q v H') : wpE K mg m o Q (fun c d H' => W c d σ H') := by
  cases o with
  | stk => exact h
  | exc x μ => exact fun c d H' m' e M q => h c d σ H' m' e M (rr.mono e) q
  | ok s μ => exact fun v H' m' e M r => hk s v μ H' m' e M r (wpS.mono (o := k s μ) e h)
theorem toSB_wp {K : PySem.W.Frag} {mg : Str → Option Value} {m : Mc} {o : Out Bool} {ρ : Rho} {σ : L2.St} {k : Bool → Mu → SO} {D : Ends} {Q : Bool → Hp → Prop} (rr : RhoIs K mg m ρ σ) (h : wpS K mg m (toSB o ρ k) D W)
    (hk : ∀ s μ H' m', Ext m m' → Mem K mg m' μ H' → wpS K mg m' (k s μ) D W → Q s H') : wpB K mg m o Q (fun c d H' => W c d σ H') := by
  cases o with
  | stk => exact h
  | exc x μ => exact fun c d H' m' e M q => h c d σ H' m' e M (rr.mono e) q
  | ok s μ => exact fun H' m' e M => hk s μ H' m' e M (wpS.mono (o := k s μ) e h)
theorem toSA_wp {K : PySem.W.Frag} {mg : Str → Option Value} {m : Mc} {o : Out (List S)} {ρ : Rho} {σ : L2.St} {k : List S → Mu → SO} {D : Ends} {Q : List V → Hp → Prop} (rr : RhoIs K mg m ρ σ) (h : wpS K mg m (toSA o ρ k) D W)
    (hk : ∀ s v μ H' m', Ext m m' → Mem K mg m' μ H' → SAll K mg m' s v → wpS K mg m' (k s μ) D W → Q v H') : wpA K mg m o Q (fun c d H' => W c d σ H') := by
  cases o with
  | stk => exact h
  | exc x μ => exact fun c d H' m' e M q => h c d σ H' m' e M (rr.mono e) q
  | ok s μ => exact fun v H' m' e M r => hk s v μ H' m' e M r (wpS.mono (o := k s μ) e h)
theorem dss_nil : DSs X W [] sNil := .in ⟨_, pss_nil, fun σ H m ρ μ D M rr h => h σ H m .refl M rr⟩
theorem seq_sound {t u : TS} (qt : ∀ σ H m ρ μ D, Mem X.K X.mg m μ H → RhoIs X.K X.mg m ρ σ → wpS X.K X.mg m (f ρ μ) D W → t D σ H) (qu : ∀ σ H m ρ μ D, Mem X.K X.mg m μ H → RhoIs X.K X.mg m ρ σ → wpS X.K X.mg m (g ρ μ) D W → u D σ H)
    {σ : L2.St} {H : Hp} {m : Mc} {ρ : Rho} {μ : Mu} {D : Ends} (M : Mem X.K X.mg m μ H) (rr : RhoIs X.K X.mg m ρ σ) (h : wpS X.K X.mg m (sSeq f g ρ μ) D W) : tSeq t u D σ H := by
  refine qt σ H m ρ μ _ M rr ?_
  unfold sSeq at h
  cases e1 : f ρ μ with
  | stk => rw [e1] at h; exact h
  | nx ρ' μ' => rw [e1] at h; exact fun σ' H' m' e M' r' => qu σ' H' m' ρ' μ' D M' r' (wpS.mono (o := g ρ' μ') e h)
  | rt s μ' => rw [e1] at h; exact h
  | bk ρ' μ' => rw [e1] at h; exact h
  | ct ρ' μ' => rw [e1] at h; exact h
  | exc x ρ' μ' => rw [e1] at h; exact h
theorem dss_cons (h1 : DS X W st f) (h2 : DSs X W rest g) : DSs X W (st :: rest) (sSeq f g) := by
  obtain ⟨t, pt, qt⟩ := h1.ex
  obtain ⟨u, pu, qu⟩ := h2.ex
  exact .in ⟨_, pss_cons pt pu, fun σ H m ρ μ D M rr h => seq_sound qt qu M rr h⟩
theorem dss_one (h1 : DS X W st f) : DSs X W [st] f := by
  obtain ⟨t, pt, qt⟩ := h1.ex
  exact .in ⟨_, pss_one pt, qt⟩
theorem ds_ret (he : DE X W e fe) : DS X W (.Return (some e) pos) (sRet fe) := by
  obtain ⟨t, pt, qt⟩ := he.ex
  exact .in ⟨_, ps_ret pt, fun σ H m ρ μ D M rr h => qt σ H m ρ μ _ M rr (toS_wp rr h fun s v μ H' m' e M' r' h' => h' v H' m' .refl M' r')⟩
theorem ds_retN : DS X W (.Return none pos) sRetN := .in ⟨_, ps_retN, fun σ H m ρ μ D M rr h => h .non H m .refl M .non⟩
theorem ds_expr (he : DE X W e fe) (hs : swapsWith e none pos.line X.env = pure false := by rfl) : DS X W (.Expr e pos) (sExpr fe) := by
  obtain ⟨t, pt, qt⟩ := he.ex
  exact .in ⟨_, ps_expr pt hs, fun σ H m ρ μ D M rr h => qt σ H m ρ μ _ M rr (toS_wp rr h fun s v μ H' m' e M' r' h' => h' σ H' m' .refl M' (rr.mono e))⟩
theorem ds_set {i : Nat} {x : Str} {pos' : Pos} (hN : X.N.Nodup) (hi : X.N[i]? = some x) (hx : Loc X.env.scope x) (he : DE X W e fe) (hs : swapsWith e (some (.Name x pos')) pos.line X.env = pure false := by rfl)
    (hf : X.fn x = true ∨ X.env.scope.names.lookup x = some .local := by first | exact .inl rfl | exact .inr rfl | assumption) : DS X W (.Assign [.Name x pos'] e pos) (sSet i fe) := by
  obtain ⟨t, pt, qt⟩ := he.ex
  exact .in ⟨_, ps_set hN hi hx pt hs hf, fun σ H m ρ μ D M rr h => qt σ H m ρ μ _ M rr (toS_wp rr h fun s v μ H' m' e M' r' h' => h' _ H' m' .refl M' ((rr.mono e).set i r'))⟩
theorem ds_asg {tg : Expr} {js : List Nat} {t : D → Rho → Option Rho} (he : DE X W e fe) (hg : DG X js tg t) (hs : swapsWithSole [tg] e pos.line X.env = pure false := by rfl) (hw : swappedStores [tg] e X.env = pure none := by rfl)
    (h1 : (assignEach [tg] X.env).map (·.2) = [assign tg X.env] := by rfl) : DS X W (.Assign [tg] e pos) (sAsg t fe) := by
  obtain ⟨te, pt, qt⟩ := he.ex
  refine .in ⟨_, ps_asg pt hg.pe hs hw h1, fun σ H m ρ μ D M rr h => qt σ H m ρ μ _ M rr (toS_wp rr h fun s v μ H' m' e M' r' h' => ?_)⟩
  cases s with
  | c k => exact h'.elim
  | d d =>
    dsimp only at h'
    split at h'
    · rename_i ρ' hρ
      exact ⟨m', μ, ρ, d, ρ', M', rr.mono e, r', hρ, fun σ' r2 _ => h' σ' H' m' .refl M' r2⟩
    · exact h'.elim
theorem ds_if (hc : DT X W c fb) (ha : DSs X W sts f) (hb : DSs X W sts2 g) : DS X W (.If c sts sts2 pos) (sIf fb f g) := by
  obtain ⟨tc, pc, qc⟩ := hc.ex
  obtain ⟨t, pt, qt⟩ := ha.ex
  obtain ⟨u, pu, qu⟩ := hb.ex
  refine .in ⟨_, ps_if pc pt pu, fun σ H m ρ μ D M rr h => qc σ H m ρ μ _ M rr (toSB_wp rr h fun b μ H' m' e M' h' => ?_)⟩
  cases b with
  | true => exact iteT (qt σ H' m' ρ μ D M' (rr.mono e) h')
  | false => exact iteF (qu σ H' m' ρ μ D M' (rr.mono e) h')
theorem ds_par {i j : Nat} {x y : Str} {a b : Expr} {px py pt : Pos} {kt k2 pt2} (hc : X.calm = true) (hN : X.N.Nodup) (hi : X.N[i]? = some x) (hj : X.N[j]? = some y) (hij : i ≠ j)
    (hx : X.env.scope.names.lookup x = some .local) (hy : X.env.scope.names.lookup y = some .local) (ha : DA X W [a, b] fa)
    (hp : ∀ {ta : TA}, PA X [a, b] ta → PS X (.Assign [.Tuple [.Name x px, .Name y py] kt pt] (.Tuple [a, b] k2 pt2) pos) (tPar i j ta)) : DS X W (.Assign [.Tuple [.Name x px, .Name y py] kt pt] (.Tuple [a, b] k2 pt2) pos) (sPar i j fa) := by
  obtain ⟨ta, pa, qa⟩ := ha.ex
  refine .in ⟨_, hp pa, fun σ H m ρ μ D M rr h => qa σ H m ρ μ _ M rr (toSA_wp rr h fun ss vs μ H' m' e M' r' h' => ?_)⟩
  cases r' with
  | nil => exact h'.elim
  | cons a q =>
    cases q with
    | nil => exact h'.elim
    | cons b q =>
      cases q with
      | nil => exact ⟨_, _, rfl, h' _ H' m' .refl M' (((rr.mono e).set i a).set j b)⟩
      | cons _ _ => exact h'.elim
/-- a name's cell is settled from here on -/
def sFrz (i : Nat) (f : FS) : FS := fun ρ μ => match ρ[i]? with
  | some (some (.c k)) => (match μ[k]? with
    | some (.lst l) => f (ρ.set i (some (.d (.lst l)))) (μ.set k .dead)
    | _ => .stk)
  | _ => .stk
theorem set_same {σ : L2.St} {i : Nat} {o : Option V} (h : σ[i]? = some o) : σ.set i o = σ := by
  apply List.ext_getElem?
  intro j
  by_cases e : i = j
  · subst e
    rw [List.getElem?_set_self (get_lt h), h]
  · rw [List.getElem?_set_ne e]
theorem dss_frz (i : Nat) (h1 : DSs X W sts f) : DSs X W sts (sFrz i f) := by
  obtain ⟨t, pt, qt⟩ := h1.ex
  refine .in ⟨_, pt, fun σ H m ρ μ D M rr h => ?_⟩
  unfold sFrz at h
  split at h
  · rename_i k hk
    split at h
    · rename_i l hl
      obtain ⟨v, e1, a, e2, rfl⟩ := rr.has i _ hk
      obtain ⟨m', x', M', is'⟩ := M.freeze e2 hl
      have r2 := (rr.mono x').set i (s := .d (.lst l)) is'
      rw [set_same e1] at r2
      exact qt σ H m' _ _ D M' r2 (h.mono x')
    · exact h.elim
  · exact h.elim
/-! ### lists changed -/
def putCell (k : Nat) (μ : Mu) (g : List D → Option (List D)) (r : Mu → SO) : SO := match μ[k]? with
  | some (.lst l) => (match g l with
    | some l' => r (μ.set k (.lst l'))
    | none => .stk)
  | _ => .stk
/-- xs.append(e), as a statement -/
def sApp (fx : FE) (fe : FE) : FS := fun ρ μ => toS (fx ρ μ) ρ fun s μ1 => match s with
  | .c k => (match μ1[k]? with
    | some (.lst _) => toS (fe ρ μ1) ρ fun d μ2 => (match d with
      | .d d => putCell k μ2 (fun l => if l.length < cap then some (l ++ [d]) else none) fun μ3 => .nx ρ μ3
      | _ => .stk)
    | _ => .stk)
  | _ => .stk
theorem ds_app {o a : Expr} {fx : FE} {apos cpos : Pos} (ho : DE X W o fx) (ha : DE X W a fe)
    (hp : ∀ {to : TE} {ta : TA}, PE X o to → PA X [a] ta → PS X (.Expr (.Call (.Attribute o "append" apos) [a] [] cpos) pos) (tDrop (tBM X.K "list" rAppend to ta))) (hs : starEach [a] X.env = (false, eval a X.env) :: starEach [] X.env := by rfl) :
    DS X W (.Expr (.Call (.Attribute o "append" apos) [a] [] cpos) pos) (sApp fx fe) := by
  obtain ⟨to, po, qo⟩ := ho.ex
  obtain ⟨ta, pa, qa⟩ := ha.ex
  refine .in ⟨_, hp po (pa_cons pa pa_nil hs), fun σ H m ρ μ D M rr h => qo σ H m ρ μ _ M rr (toS_wp rr h fun s v μ1 H1 m1 e1 M1 r1 h1 => ?_)⟩
  cases s with
  | d d => exact h1.elim
  | c k =>
    dsimp only at h1
    split at h1
    · rename_i l0 hl0
      obtain ⟨p, g1, rfl⟩ := r1
      obtain ⟨vs0, g2, g3⟩ := M1.getC g1 hl0
      refine ⟨.inl ⟨rfl, _, SqL.of g2⟩, qa σ H1 m1 ρ μ1 _ M1 (rr.mono e1) (toS_wp (rr.mono e1) h1 fun s2 v2 μ2 H2 m2 e2 M2 r2 h2 => ?_)⟩
      cases s2 with
      | c k => exact h2.elim
      | d d =>
        dsimp only at h2
        unfold putCell at h2
        split at h2
        · rename_i l hl
          obtain ⟨vs, g4, g5⟩ := M2.getC (e2.get g1) hl
          split at h2
          · rename_i l' hl'
            dsimp only at hl'
            split at hl'
            · rename_i hc
              cases hl'
              refine ⟨p, vs, v2, rfl, rfl, g4, by rw [← g5.length, sizeLine_eq]; unfold cap at hc; omega, ?_⟩
              exact h2 σ _ m2 .refl (M2.put (e2.get g1) hl (g5.append (.cons r2 .nil))) ((rr.mono e1).mono e2)
            · cases hl'
          · exact h2.elim
        · exact h2.elim
    · exact h1.elim
/-- xs[i] = e -/
def sSub (fx fi fe : FE) : FS := fun ρ μ => toS (fe ρ μ) ρ fun d μ1 => toS (fx ρ μ1) ρ fun s μ2 => toS (fi ρ μ2) ρ fun i μ3 => match d, s, i with
  | .d d, .c k, .d (.int i) => putCell k μ3 (fun l => (ixN l.length i).map fun j => l.set j d) fun μ4 => .nx ρ μ4
  | _, _, _ => .stk
theorem ds_sub {o i e : Expr} {fx fi : FE} {spos : Pos} (ho : DE X W o fx) (hi : DE X W i fi) (he : DE X W e fe)
    (hp : ∀ {to ti te : TE}, PE X o to → PE X i ti → PE X e te → PS X (.Assign [.Subscript o i spos] e pos) (tAsg te (gSub to ti rSetL))) : DS X W (.Assign [.Subscript o i spos] e pos) (sSub fx fi fe) := by
  obtain ⟨to, po, qo⟩ := ho.ex
  obtain ⟨ti, pi, qi⟩ := hi.ex
  obtain ⟨te, pe, qe⟩ := he.ex
  refine .in ⟨_, hp po pi pe, fun σ H m ρ μ D M rr h => qe σ H m ρ μ _ M rr (toS_wp rr h fun d v μ1 H1 m1 e1 M1 r1 h1 => ?_)⟩
  refine qo σ H1 m1 ρ μ1 _ M1 (rr.mono e1) (toS_wp (rr.mono e1) h1 fun s v2 μ2 H2 m2 e2 M2 r2 h2 => ?_)
  refine qi σ H2 m2 ρ μ2 _ M2 ((rr.mono e1).mono e2) (toS_wp ((rr.mono e1).mono e2) h2 fun i v3 μ3 H3 m3 e3 M3 r3 h3 => ?_)
  split at h3
  · rename_i d k i
    obtain ⟨p, g1, rfl⟩ := r2
    cases (show Is X.K X.mg m3.fr (.int i) v3 from r3)
    unfold putCell at h3
    split at h3
    · rename_i l hl
      obtain ⟨vs, g4, g5⟩ := M3.getC (e3.get g1) hl
      split at h3
      · rename_i l' hl'
        obtain ⟨j, hj, rfl⟩ := Option.map_eq_some_iff.mp hl'
        refine ⟨p, vs, i, j, rfl, rfl, g4, by rw [← g5.length]; exact hj, ?_⟩
        exact h3 σ _ m3 .refl (M3.put (e3.get g1) hl (g5.set j (Is.mono (e2.trans e3).same r1))) (((rr.mono e1).mono e2).mono e3)
      · exact h3.elim
    · exact h3.elim
  · exact h3.elim

/-! ### loops -/
def forD (t : D → Rho → Option Rho) (body : FS) : List D → FS
  | [] => fun ρ μ => .nx ρ μ
  | d :: ds => fun ρ μ => match t d ρ with
    | none => .stk
    | some ρ1 => match body ρ1 μ with
      | .nx ρ2 μ2 => forD t body ds ρ2 μ2
      | .ct ρ2 μ2 => forD t body ds ρ2 μ2
      | .bk ρ2 μ2 => .nx ρ2 μ2
      | o => o
def toSI (o : Out (List D)) (ρ : Rho) (k : List D → Mu → SO) : SO := match o with
  | .stk => .stk
  | .ok s μ => k s μ
  | .exc x μ => .exc x ρ μ
def sFor (fi : FI) (t : D → Rho → Option Rho) (body : FS) : FS := fun ρ μ => toSI (fi ρ μ) ρ fun l μ1 => forD t body l ρ μ1
theorem ds_for {tg iter : Expr} {fi : FI} {js : List Nat} {t : D → Rho → Option Rho} (hp : PassesOwn (model X.prog X.w) X.A X.env X.xe) (hc : X.calm = true) (hi : DI X W tg iter fi) (hg : DG X js tg t) (hb : DSs X W sts f)
    (hs : ∀ x, foldedSetIterable iter X.env x = pure x := by intro _; rfl) : DS X W (.For tg iter sts [] pos) (sFor fi t f) := by
  obtain ⟨tb, pb, qb⟩ := hb.ex
  refine .in ⟨_, ps_for hp hc hi.pe hg.pe pb hs, fun σ H m ρ μ D M rr h => ?_⟩
  refine ⟨m, ρ, μ, M, rr, ?_⟩
  unfold sFor at h
  cases e1 : fi ρ μ with
  | stk => rw [e1] at h; exact h
  | exc x μ' => rw [e1] at h; exact fun c d H' m' e M q => h c d σ H' m' e M (rr.mono e) q
  | ok items μ1 =>
    rw [e1] at h
    intro J H1 m1 x1 M1 wk
    have h : wpS X.K X.mg m (forD t f items ρ μ1) D W := h
    have h := h.mono x1
    refine ⟨fun i msr σ' H' => msr = items.length - i ∧ i ≤ items.length ∧ ∃ mA ρA μA, Ext m1 mA ∧ Mem X.K X.mg mA μA H' ∧ RhoIs X.K X.mg mA ρA σ' ∧ wpS X.K X.mg mA (forD t f (items.drop i) ρA μA) D W,
      ⟨items.length, rfl, Nat.zero_le _, m1, ρ, μ1, .refl, M1, rr.mono x1, by rw [List.drop_zero]; exact h⟩, ?_⟩
    rintro i msr σ2 H2 ⟨rfl, hi, mA, ρA, μA, xA, MA, rA, hw⟩
    by_cases hlt : i < items.length
    · refine .inr ⟨wk.go i H2 mA.fr xA.same MA.sub hlt, fun σ' H' => ∃ mA ρA μA, Ext m1 mA ∧ Mem X.K X.mg mA μA H' ∧ RhoIs X.K X.mg mA ρA σ' ∧ wpS X.K X.mg mA (forD t f (items.drop (i + 1)) ρA μA) D W,
        fun σ' H' q => ⟨items.length - (i + 1), by omega, rfl, hlt, q⟩, fun x H3 hyl => ?_⟩
      have hd : items[i]? = some items[i] := List.getElem?_eq_getElem hlt
      obtain ⟨m3, x3, M3, is3⟩ := wk.yld i H2 _ μA x H3 _ xA.same MA hd hyl
      rw [List.drop_eq_getElem_cons hlt] at hw
      unfold forD at hw
      cases et : t items[i] ρA with
      | none => rw [et] at hw; exact hw.elim
      | some ρ1 =>
        rw [et] at hw
        refine ⟨m3, μA, ρA, _, ρ1, M3, rA.mono x3, is3, et, fun σ4 r4 _ => ?_⟩
        dsimp only at hw
        refine qb σ4 H3 m3 ρ1 μA _ M3 r4 ?_
        cases eb : f ρ1 μA with
        | stk => rw [eb] at hw; exact hw.elim
        | nx ρ2 μ2 => rw [eb] at hw; exact fun σ' H' m' e M' r' => ⟨m', ρ2, μ2, (xA.trans x3).trans e, M', r', wpS.mono (o := forD t f (items.drop (i + 1)) ρ2 μ2) (x3.trans e) hw⟩
        | ct ρ2 μ2 => rw [eb] at hw; exact fun σ' H' m' e M' r' => ⟨m', ρ2, μ2, (xA.trans x3).trans e, M', r', wpS.mono (o := forD t f (items.drop (i + 1)) ρ2 μ2) (x3.trans e) hw⟩
        | bk ρ2 μ2 => rw [eb] at hw; exact fun σ' H' m' e M' r' => hw σ' H' m' (x3.trans e) M' r'
        | rt s μ2 => rw [eb] at hw; exact fun v H' m' e M' r' => hw v H' m' (x3.trans e) M' r'
        | exc x ρ2 μ2 => rw [eb] at hw; exact fun c d s H' m' e M' r' q => hw c d s H' m' (x3.trans e) M' r' q
    · refine .inl ⟨wk.stop i H2 mA.fr xA.same MA.sub (by omega), ?_⟩
      rw [List.drop_of_length_le (by omega)] at hw
      exact hw σ2 H2 mA .refl MA rA
def whileD (c : FB) (body : FS) : Nat → FS
  | 0 => fun _ _ => .stk
  | n + 1 => fun ρ μ => toSB (c ρ μ) ρ fun b μ1 => if b = true then (match body ρ μ1 with
      | .nx ρ2 μ2 => whileD c body n ρ2 μ2
      | .ct ρ2 μ2 => whileD c body n ρ2 μ2
      | .bk ρ2 μ2 => .nx ρ2 μ2
      | o => o) else .nx ρ μ1
def sWhile (fuel : Rho → Mu → Nat) (c : FB) (body : FS) : FS := fun ρ μ => whileD c body (fuel ρ μ) ρ μ
theorem ds_while (fuel : Rho → Mu → Nat) (hp : PassesOwn (model X.prog X.w) X.A X.env X.xe) (hc : DT X W c fb) (hb : DSs X W sts f) : DS X W (.While c sts [] pos) (sWhile fuel fb f) := by
  obtain ⟨tc, pc, qc⟩ := hc.ex
  obtain ⟨tb, pb, qb⟩ := hb.ex
  refine .in ⟨_, ps_while hp pc pb, fun σ H m ρ μ D M rr h => ?_⟩
  refine ⟨fun n σ' H' => ∃ mA ρA μA, Mem X.K X.mg mA μA H' ∧ RhoIs X.K X.mg mA ρA σ' ∧ wpS X.K X.mg mA (whileD fb f n ρA μA) D W, ⟨fuel ρ μ, m, ρ, μ, M, rr, h⟩, ?_⟩
  rintro n σ2 H2 ⟨mA, ρA, μA, MA, rA, hw⟩
  cases n with
  | zero => exact hw.elim
  | succ n =>
    refine qc σ2 H2 mA ρA μA _ MA rA (toSB_wp (k := fun b μ1 => if b = true then (match f ρA μ1 with
      | .nx ρ2 μ2 => whileD fb f n ρ2 μ2
      | .ct ρ2 μ2 => whileD fb f n ρ2 μ2
      | .bk ρ2 μ2 => .nx ρ2 μ2
      | o => o) else .nx ρA μ1) rA hw fun b μ1 H3 m3 e3 M3 h3 => ?_)
    cases b with
    | false =>
      rw [if_neg Bool.false_ne_true] at h3 ⊢
      exact h3 σ2 H3 m3 .refl M3 (rA.mono e3)
    | true =>
      rw [if_pos rfl] at h3 ⊢
      refine ⟨fun σ' H' => ∃ mA ρA μA, Mem X.K X.mg mA μA H' ∧ RhoIs X.K X.mg mA ρA σ' ∧ wpS X.K X.mg mA (whileD fb f n ρA μA) D W, fun σ' H' q => ⟨n, Nat.lt_succ_self n, q⟩, qb σ2 H3 m3 ρA μ1 _ M3 (rA.mono e3) ?_⟩
      cases eb : f ρA μ1 with
      | stk => rw [eb] at h3; exact h3.elim
      | nx ρ2 μ2 => rw [eb] at h3; exact fun σ' H' m' e M' r' => ⟨m', ρ2, μ2, M', r', wpS.mono (o := whileD fb f n ρ2 μ2) e h3⟩
      | ct ρ2 μ2 => rw [eb] at h3; exact fun σ' H' m' e M' r' => ⟨m', ρ2, μ2, M', r', wpS.mono (o := whileD fb f n ρ2 μ2) e h3⟩
      | bk ρ2 μ2 => rw [eb] at h3; exact fun σ' H' m' e M' r' => h3 σ' H' m' e M' r'
      | rt s μ2 => rw [eb] at h3; exact fun v H' m' e M' r' => h3 v H' m' e M' r'
      | exc x ρ2 μ2 => rw [eb] at h3; exact fun c d s H' m' e M' r' q => h3 c d s H' m' e M' r' q
def sBreak : FS := fun ρ μ => .bk ρ μ
def sCont : FS := fun ρ μ => .ct ρ μ
theorem ds_break : DS X W (.Break pos) sBreak := .in ⟨_, ps_break, fun σ H m ρ μ D M rr h => h σ H m .refl M rr⟩
theorem ds_cont : DS X W (.Continue pos) sCont := .in ⟨_, ps_continue, fun σ H m ρ μ D M rr h => h σ H m .refl M rr⟩
end
section
variable {X : Cx} {W : WX}
/-- name = [..], the comprehension on the name's own line -/
theorem ds_setLc {vs : List Nat} {i : Nat} {y : Str} {py : Pos} {elt tg iter : Expr} {ifs : List Expr} {scope : Scope} {own : List (Str × Nat)} {pos spos : Pos} {fi : FI} {t : D → Rho → Option Rho} {ft : FB} {fe : FE} {js : List Nat} (hc : X.calm = true) (hN : X.N.Nodup) (hy : X.N[i]? = some y) (hyl : X.env.scope.names.lookup y = some .local)
    (hsw : swapsWith (.ListComp elt [⟨tg, iter, ifs, 0⟩] scope pos) (some (.Name y py)) spos.line X.env = pure true) (hi : DI X W tg iter fi) (ok : BlkOk X.N X.env.scope scope own)
    (hg : ∀ (s : Shared) (H : Hp) (C : Addr) (cl : List (Str × Addr)) (fp : List Addr), DG (X.blk s H scope (compEnvC scope cl C X.env) fp) js tg t) (ht : ∀ (s : Shared) (H : Hp) (C : Addr) (cl : List (Str × Addr)) (fp : List Addr), DTs (X.blk s H scope (compEnvC scope cl C X.env) fp) (fun _ _ _ _ => False) ifs ft)
    (he : ∀ (s : Shared) (H : Hp) (C : Addr) (cl : List (Str × Addr)) (fp : List Addr), DE (X.blk s H scope (compEnvC scope cl C X.env) fp) (fun _ _ _ _ => False) elt fe) (hv : own.map (·.2) = vs) (hj : ∀ j ∈ js, j ∈ vs) (hs : ∀ x, foldedSetIterable iter X.env x = pure x := by intro _; rfl) :
    DS X W (.Assign [.Name y py] (.ListComp elt [⟨tg, iter, ifs, 0⟩] scope pos) spos) (sSet i (eLc fi t ft fe vs)) := by
  subst hv
  exact .in ⟨_, ps_setLc hc hN hy hyl hsw hi.pe ok (fun s H C cl fp => (hg s H C cl fp).pe) (fun s H C cl fp => (ht s H C cl fp).pe) (fun s H C cl fp => (he s H C cl fp).pe) hs, fun σ H m ρ μ D M rr h =>
    lc_sound hj M rr (toS_wp rr h fun s v μ H' m' e M' r' h' => h' _ H' m' .refl M' ((rr.mono e).set i r'))⟩
end
end GF

set_option maxHeartbeats 2000000
/-! Short words for printed derivations. -/
namespace GF
open PySem PySem.Spec PyProof.Rows L2
/-- the def x of the module keeps the promise g -/
structure FnAt (P : Program) (w : World) (K : PySem.W.Frag) (mg : Str → Option Value) (base : Heap) (k : Nat) (x : Str) (n : Nat) (g : List S → Mu → Out S) : Prop where
  ex : ∃ f fd ps, FnOk P w K mg base (L2N.CX P w) k f fd ps (spD K mg n g) ∧ mg x = some (.ref f) ∧ PySem.W.keepIn K (.ref f) = true ∧ Binds K fd ps []
theorem FnAt.mono {P : Program} {w : World} {K : PySem.W.Frag} {mg : Str → Option Value} {base : Heap} {j k : Nat} {x : Str} {n : Nat} {g : List S → Mu → Out S} (F : FnAt P w K mg base j x n g) (h : j ≤ k) : FnAt P w K mg base k x n g := by
  obtain ⟨f, fd, ps, a, b⟩ := F.ex
  exact ⟨f, fd, ps, a.mono h, b⟩
theorem FnAt.as {P : Program} {w : World} {K : PySem.W.Frag} {mg : Str → Option Value} {base : Heap} {k : Nat} {x : Str} {n : Nat} {g g' : List S → Mu → Out S} (F : FnAt P w K mg base k x n g) (h : ∀ ss μ, g' ss μ = .stk ∨ g ss μ = g' ss μ) : FnAt P w K mg base k x n g' := by
  obtain ⟨f, fd, ps, a, b⟩ := F.ex
  exact ⟨f, fd, ps, fn_as a h, b⟩
section
variable {X : Cx} {W : WX} {e : Expr} {es : List Expr} {fa : FA} {p pos : Pos} {j k n : Nat} {g : List S → Mu → Out S} {x : Str}
theorem dcall (F : FnAt X.prog X.w X.K X.mg X.base j x n g) (hr : Room k X.A) (hjk : j ≤ k) (tk : L2N.Takes X W) (ha : DA X W (e :: es) fa)
    (hg : Gl X x := by rfl) (hdb : (x == ("__debug__" : Str)) = false := by decide) (he : starEach (e :: es) X.env = (false, eval e X.env) :: starEach es X.env := by rfl) (hpl : (backTo pos (starEach es X.env)).any (·.1) = false := by rfl) :
    DE X W (.Call (.Name x p) (e :: es) [] pos) (eCall n g fa) := by
  obtain ⟨f, fd, ps, a, b, c, d⟩ := F.ex
  exact de_call a (hr.mono hjk) b c d tk ha hg hdb he hpl
theorem dcall0 {E : XK} (F : FnAt X.prog X.w X.K X.mg X.base j x 0 g) (hr : Room k X.A) (hjk : j ≤ k) (tk : L2N.Takes X (fun c d _ H => E c d H))
    (hg : Gl X x := by rfl) (hdb : (x == ("__debug__" : Str)) = false := by decide) : DE X (fun c d _ H => E c d H) (.Call (.Name x p) [] [] pos) (eCall0 g) := by
  obtain ⟨f, fd, ps, a, b, c, d⟩ := F.ex
  exact de_call0 a (hr.mono hjk) b c d tk hg hdb
theorem hr65 {A : Around} {k : Nat} (hr : Room k A) : A.units + 65 < cLine := by have := hr.un; omega
theorem fnAt_mk {P : Program} {w : World} {K : PySem.W.Frag} {mg : Str → Option Value} {base : Heap} {st : Stmt} {f : Addr} {fd : FuncData} {N ps : List Str} {k : Nat} {x : Str} {body : FS} (F : Fun K x x st f fd) (hm : mg x = some (.ref f)) (hb : Binds K fd ps []) (S : FnScope N ps (defScope st))
    (h : ∀ (cdv : Value) (A : Around) (outer : List Env) (s : Shared) (H : Hp) (E : XK), Room k (A.deeper (envOfC x (defScope st) s.heap.objs.size f cdv)) → DSs (cxOf (L2N.CX P w) P w K mg base N x (defScope st) f cdv A outer s H E) (fun c d _ H => E c d H) (defBody st) body) :
    FnAt P w K mg base (k + 1) x ps.length (fnD N.length body) := ⟨f, fd, ps, fn_ok F S h, hm, F.kp, hb⟩
/-- where the def x stands in the text -/
structure At (K : PySem.W.Frag) (mg : Str → Option Value) (x : Str) (st : Stmt) (ps : List Str) : Prop where
  ex : ∃ f fd, Fun K x x st f fd ∧ mg x = some (.ref f) ∧ Binds K fd ps []
theorem At.go {P : Program} {w : World} {K : PySem.W.Frag} {mg : Str → Option Value} {base : Heap} {st : Stmt} {N ps : List Str} {k : Nat} {x : Str} {body : FS} (T : At K mg x st ps) (S : FnScope N ps (defScope st))
    (h : ∀ (f : Addr) (cdv : Value) (A : Around) (outer : List Env) (s : Shared) (H : Hp) (E : XK), Room k (A.deeper (envOfC x (defScope st) s.heap.objs.size f cdv)) → DSs (cxOf (L2N.CX P w) P w K mg base N x (defScope st) f cdv A outer s H E) (fun c d _ H => E c d H) (defBody st) body) :
    FnAt P w K mg base (k + 1) x ps.length (fnD N.length body) := by
  obtain ⟨f, fd, F, a, b⟩ := T.ex
  exact fnAt_mk F a b S (h f)
theorem At.go' {P : Program} {w : World} {K : PySem.W.Frag} {mg : Str → Option Value} {base : Heap} {st : Stmt} {N ps : List Str} {k k1 n nn : Nat} {x : Str} {body : FS} {g : List S → Mu → Out S} (T : At K mg x st ps) (S : FnScope N ps (defScope st))
    (hk : k1 = k + 1) (hn : n = ps.length) (hN : N.length = nn) (hg : g = fnD nn body)
    (h : ∀ (f : Addr) (cdv : Value) (A : Around) (outer : List Env) (s : Shared) (H : Hp) (E : XK), Room k (A.deeper (envOfC x (defScope st) s.heap.objs.size f cdv)) → DSs (cxOf (L2N.CX P w) P w K mg base N x (defScope st) f cdv A outer s H E) (fun c d _ H => E c d H) (defBody st) body) :
    FnAt P w K mg base k1 x n g := by
  subst hk hn hN hg
  exact T.go S h
theorem At.stk {P : Program} {w : World} {K : PySem.W.Frag} {mg : Str → Option Value} {base : Heap} {st : Stmt} {ps : List Str} {k : Nat} {x : Str} (T : At K mg x st ps) : FnAt P w K mg base k x ps.length (fun _ _ => .stk) := by
  obtain ⟨f, fd, F, a, b⟩ := T.ex
  exact ⟨f, fd, ps, fn_none, a, F.kp, b⟩
theorem at_mk {K : PySem.W.Frag} {mg : Str → Option Value} {h : Heap} {x : Str} {st : Stmt} {ps : List Str} {f : Addr} {oc : Value} {od an : Option Addr} {osl : Array (Option Value)} {kV doc pm cdv ct : Value} (X : K.In h) (G : h.Ns mainGlobals mg)
    (a : PySem.W.nsIn K mainGlobals x = some (some (.ref f))) (l : K.lookup f = some ⟨oc, od, .func (PySem.W.fnOf x x (defArgs st) (defBody st) (defScope st) .none kV doc pm an cdv ct), osl⟩)
    (c : PySem.W.codeIn K cdv x = true) (k : PySem.W.keepIn K (.ref f) = true)
    (b : ∀ (kV doc pm : Value) (an : Option Addr) (cdv ct : Value) (us : List Value), us.length = ps.length → bindArgs (PySem.W.fnOf x x (defArgs st) (defBody st) (defScope st) .none kV doc pm an cdv ct) ⟨us, []⟩ = pure (ps.zip us)) : At K mg x st ps :=
  ⟨f, _, fun_mk (st := st) l c k, PySem.W.mg_of X G a, (fun_mk (st := st) l c k).binds b⟩
end
/-- .. with the def's place told: for the law itself -/
theorem fn_go {P : Program} {w : World} {K : PySem.W.Frag} {mg : Str → Option Value} {base : Heap} {st : Stmt} {N ps : List Str} {k k1 n nn : Nat} {x : Str} {body : FS} {g : List S → Mu → Out S} {f : Addr} {fd : FuncData} (F : Fun K x x st f fd) (S : FnScope N ps (defScope st))
    (hk : k1 = k + 1) (hn : n = ps.length) (hN : N.length = nn) (hg : g = fnD nn body)
    (h : ∀ (f : Addr) (cdv : Value) (A : Around) (outer : List Env) (s : Shared) (H : Hp) (E : XK), Room k (A.deeper (envOfC x (defScope st) s.heap.objs.size f cdv)) → DSs (cxOf (L2N.CX P w) P w K mg base N x (defScope st) f cdv A outer s H E) (fun c d _ H => E c d H) (defBody st) body) :
    FnOk P w K mg base (L2N.CX P w) k1 f fd ps (spD K mg n g) := by
  subst hk hn hN hg
  exact fn_ok F S (h f)
/-- the law's promise: the tables of cs are empty -/
def spLaw (K : PySem.W.Frag) (cs : List (Addr × Addr)) : Sp := fun vs H Q _ => ∃ (a : Addr) (ns : List Int), vs = [.ref a] ∧ SqL K H a (ns.map V.int) ∧ ns.length ≤ 63 ∧ (∀ p ∈ cs, H p.2 = some (.tbl #[])) ∧ ∀ H', Q (.bl true) H'
/-- all but the tables -/
def noTbl (H : Hp) : Hp := fun b => match H b with
  | some (.tbl _) => none
  | o => o
theorem noTbl_same (H : Hp) : Same (noTbl H) H := fun b o e => by
  unfold noTbl at e
  split at e
  · cases e
  · exact e
theorem noTbl_nt (H : Hp) : ∀ b ps, noTbl H b ≠ some (.tbl ps) := fun b ps e => by
  unfold noTbl at e
  split at e
  · cases e
  · rename_i h; exact h ps e
theorem noTbl_get {H : Hp} {b : Addr} {o : HO} (h : H b = some o) (n : ∀ ps, o ≠ .tbl ps) : noTbl H b = some o := by
  unfold noTbl
  split
  · rename_i ps e; rw [h] at e; cases e; exact absurd rfl (n ps)
  · exact h
theorem noTbl_sql {K : PySem.W.Frag} {H : Hp} {a : Addr} {xs : List V} (h : SqL K H a xs) : SqL K (noTbl H) a xs := by
  rcases h with (h | ⟨o, h⟩) | h
  · exact .inl (.inl (noTbl_get h fun ps z => by cases z))
  · exact .inl (.inr ⟨o, noTbl_get h fun ps z => by cases z⟩)
  · exact .inr h
/-- the code objects that are watched -/
def csOf (K : PySem.W.Frag) : List (Addr × Addr) := lamNames.filterMap fun x => PySem.W.tabIn K x
theorem tabsK_mem {K : PySem.W.Frag} {p : Addr × Str} (h : p ∈ tabsK K) : ∃ x ∈ lamNames, ∃ c, PySem.W.tabIn K x = some (c, p.1) ∧ p.2 = lamQ x ∧ (c, p.1) ∈ csOf K := by
  obtain ⟨x, hx, e⟩ := List.mem_filterMap.mp h
  cases e1 : PySem.W.tabIn K x with
  | none => rw [e1] at e; cases e
  | some q =>
    obtain ⟨c, P⟩ := q
    rw [e1] at e
    cases e
    exact ⟨x, hx, c, e1, rfl, List.mem_filterMap.mpr ⟨x, hx, e1⟩⟩
theorem law_end {P : Program} {w : World} {K : PySem.W.Frag} {mg : Str → Option Value} {base : Heap} {k : Nat} {f : Addr} {fd : FuncData} {ps : List Str} {g : List S → Mu → Out S} (F : FnOk P w K mg base (L2N.CX P w) k f fd ps (spD K mg 1 g))
    (h : ∀ ns : List Int, ns.length ≤ 63 → ∃ μ, g [.d (.scr ns)] [] = .ok (.d (.bl true)) μ) : FnOk P w K mg base (L2N.CX P w) k f fd ps (spLaw K (csOf K)) := by
  refine F.imp fun vs H Q E ⟨a, ns, e, hS, hl, hT, q⟩ => ?_
  subst e
  obtain ⟨μ, e⟩ := h ns hl
  refine ⟨rfl, ⟨[], noTbl H, fun _ => none⟩, [], [.d (.scr ns)], ⟨noTbl_same H, fun _ _ z => (by cases z), fun _ _ z => (by cases z), rfl, List.nodup_nil, fun k a c z => (by simp at z), fun p hp => ?_, noTbl_nt H, fun _ _ z => (by cases z)⟩, .cons (.scr (noTbl_sql hS)) .nil, ?_⟩
  · obtain ⟨x, _, c, _, _, hm⟩ := tabsK_mem hp
    exact LamX.TabS.nil (hT _ hm)
  rw [e]
  intro v H' m' x M r
  cases (show Is K mg m'.fr (.bl true) v from r)
  exact q H'
/-- a built-in's name is nothing of the module's own -/
structure NoB (mg : Str → Option Value) (x : Str) : Prop where
  no : mg x = none
/-- a name of the module that holds an int -/
structure IntB (mg : Str → Option Value) (x : Str) (i : Int) : Prop where
  is : ∃ t, mg x = some (.int i t)
theorem de_intB {X : Cx} {W : WX} {x : Str} {i : Int} {pos : Pos} (B : IntB X.mg x i) (hg : Gl X x := by rfl) (hd : (x == ("__debug__" : Str)) = false := by decide) : DE X W (.Name x pos) (eC (.int i)) := by
  obtain ⟨t, h⟩ := B.is
  exact de_glob (v := .int i) h ⟨t, rfl⟩ (fun _ => .int i) hg hd
end GF

set_option maxHeartbeats 2000000
/-! What the denotations reckon: the drawing that all laws share. -/
namespace GF
open PySem PySem.Spec PyProof.Rows L2

def G_source : FS :=
      (sSeq (sSet 2 (eC (.int 0)))
      (sSeq (sIf (bT (eOp gtD (eBi lenD (aCons (eV 0) aNil)) (eV 1)))
      (sSet 2 (eBi intD (aCons (eOp ixD (eV 0) (eV 1)) aNil)))
      sNil)
      (sSeq (sSet 3 (eOp modD (eOp addD (eOp addD (eOp mulD (eV 2) (eC (.int 16807))) (eOp mulD (eC (.int 60919)) (eV 1))) (eC (.int 31))) (eC (.int 2147481173))))
      (sSeq (sSet 3 (eOp addD (eOp addD (eOp modD (eOp mulD (eV 3) (eV 3)) (eC (.int 2147481151))) (eOp mulD (eC (.int 2)) (eV 1))) (eC (.int 5))))
      (sRet (eCell (aCons (eIf (bT (eOp geD (eV 2) (eOp powD (eC (.int 10)) (eC (.int 18))))) (eV 2) (eC (.int 0))) (aCons (eV 3) aNil))))))))
def g_source : List S → Mu → Out S := fnD 4 G_source
def G_pick : FS :=
      (sSeq (sIf (bT (eOp gtD (eOp ixD (eV 0) (eC (.int 0))) (eC (.int 0))))
      (sSeq (sSet 2 (eOp modD (eBi intD (aCons (eOp ixD (eV 0) (eC (.int 0))) aNil)) (eV 1)))
      (sSeq (sSub (eV 0) (eC (.int 0)) (eOp fdivD (eBi intD (aCons (eOp ixD (eV 0) (eC (.int 0))) aNil)) (eV 1)))
      (sRet (eV 2))))
      sNil)
      (sSeq (sSub (eV 0) (eC (.int 1)) (eOp modD (eBi intD (aCons (eOp addD (eOp mulD (eOp ixD (eV 0) (eC (.int 1))) (eC (.int 44497))) (eC (.int 9973))) aNil)) (eC (.int 2147483647))))
      (sRet (eOp modD (eOp fdivD (eOp modD (eBi intD (aCons (eOp mulD (eOp ixD (eV 0) (eC (.int 1))) (eOp ixD (eV 0) (eC (.int 1)))) aNil)) (eC (.int 2147483399))) (eC (.int 11))) (eV 1)))))
def g_pick : List S → Mu → Out S := fnD 3 G_pick

theorem mulOk_r {i j : Int} (h1 : -(2 ^ 64) < j) (h2 : j < 2 ^ 64) : mulOk i j = true := by
  unfold mulOk
  rw [decide_eq_true h1, decide_eq_true h2]
  simp
theorem mulOk_l {i j : Int} (h1 : -(2 ^ 64) < i) (h2 : i < 2 ^ 64) : mulOk i j = true := by
  unfold mulOk
  rw [decide_eq_true h1, decide_eq_true h2]
  simp
/-! ### the source: the k-th cell of n, two ints -/
structure Src (μ : Mu) (k n : Nat) : Prop where
  len : μ.length = n
  at_ : ∃ a b, μ[k]? = some (.lst [.int a, .int b])
theorem Src.lt {μ : Mu} {k n : Nat} (h : Src μ k n) : k < n := by
  obtain ⟨a, b, e⟩ := h.at_
  rw [← h.len]; exact get_lt e
theorem Src.set {μ : Mu} {k n : Nat} (h : Src μ k n) (a b : Int) : Src (μ.set k (.lst [.int a, .int b])) k n := by
  have hl := h.lt
  refine ⟨by rw [List.length_set]; exact h.len, a, b, ?_⟩
  rw [List.getElem?_set_self (by rw [h.len]; exact hl)]
/-- only the source has moved on -/
structure Stp (k : Nat) (μ μ' : Mu) : Prop where
  len : μ'.length = μ.length
  oth : ∀ j, j ≠ k → μ'[j]? = μ[j]?
  at_ : ∃ a b, μ'[k]? = some (.lst [.int a, .int b])
theorem Stp.src {k n : Nat} {μ μ' : Mu} (s : Stp k μ μ') (h : Src μ k n) : Src μ' k n := ⟨s.len.trans h.len, s.at_⟩
theorem Stp.trans {k : Nat} {μ μ1 μ' : Mu} (a : Stp k μ μ1) (b : Stp k μ1 μ') : Stp k μ μ' := ⟨b.len.trans a.len, fun j hj => (b.oth j hj).trans (a.oth j hj), b.at_⟩
theorem Src.refl {μ : Mu} {k n : Nat} (h : Src μ k n) : Stp k μ μ := ⟨rfl, fun _ _ => rfl, h.at_⟩
theorem Src.stp {μ : Mu} {k n : Nat} (h : Src μ k n) (a b : Int) : Stp k μ (μ.set k (.lst [.int a, .int b])) :=
  ⟨by rw [List.length_set], fun j hj => List.getElem?_set_ne (Ne.symm hj), (h.set a b).at_⟩
theorem set_get {μ : Mu} {k : Nat} {c c' : Cell} (h : μ[k]? = some c') : (μ.set k c)[k]? = some c := by rw [List.getElem?_set_self (get_lt h)]
theorem pick_ok {μ : Mu} {k n : Nat} {many : Int} (h : Src μ k n) (hm : 0 < many) (hb : many.natAbs.log2 < 9000) :
    ∃ r μ', g_pick [.c k, .d (.int many)] μ = .ok (.d (.int r)) μ' ∧ Stp k μ μ' ∧ 0 ≤ r ∧ r < many := by
  obtain ⟨a, b, e⟩ := h.at_
  unfold g_pick fnD G_pick
  have er : rho0 3 [S.c k, .d (.int many)] = [some (.c k), some (.d (.int many)), none] := rfl
  rw [er]
  by_cases ha : 0 < a
  · refine ⟨a % many, μ.set k (.lst [.int (a / many), .int b]), ?_, h.stp _ _, Int.emod_nonneg _ (by omega), Int.emod_lt_of_pos _ hm⟩
    simp [sSeq, sIf, bT, eOp, eV, eC, op2, view, e, ixD, atI, ixN, cmpD, asB, Out.bind, toSB, ha, sSet, toS, eBi, aCons, aNil, opA, viewA, intD, modD, hm, sSub, fdivD, hb, putCell, sRet, retS]
    rw [List.take_of_length_le (by simp)]
  · obtain ⟨b1, hb1⟩ : ∃ b1 : Int, b1 = (b * 44497 + 9973) % 2147483647 := ⟨_, rfl⟩
    have q0 : 0 ≤ b1 := by rw [hb1]; exact Int.emod_nonneg _ (by decide)
    have q1 : b1 < 2147483647 := by rw [hb1]; exact Int.emod_lt_of_pos _ (by decide)
    have m1 : mulOk b 44497 = true := mulOk_r (by decide) (by decide)
    have m2 : mulOk b1 b1 = true := mulOk_l (by omega) (by omega)
    refine ⟨b1 * b1 % 2147483399 / 11 % many, μ.set k (.lst [.int a, .int b1]), ?_, h.stp _ _, Int.emod_nonneg _ (by omega), Int.emod_lt_of_pos _ hm⟩
    have e2 : (μ.set k (.lst [.int a, .int b1]))[k]? = some (.lst [.int a, .int b1]) := set_get e
    have l11 : Nat.log2 11 < 9000 := by decide
    simp [sSeq, sIf, bT, eOp, eV, eC, op2, view, e, ixD, atI, ixN, cmpD, asB, Out.bind, toSB, ha, sSet, toS, eBi, aCons, aNil, opA, viewA, intD, modD, hm, sSub, fdivD, hb, putCell, sRet, retS, sNil, mulD, m1, addD, ← hb1, e2, m2, l11]
    rw [List.take_of_length_le (by simp)]
theorem source_ok {μ : Mu} {ns : List Int} {k : Int} (h0 : 0 ≤ k) : ∃ a b, g_source [.d (.scr ns), .d (.int k)] μ = .ok (.c μ.length) (μ ++ [.lst [.int a, .int b]]) := by
  unfold g_source fnD G_source
  have er : rho0 4 [S.d (.scr ns), .d (.int k)] = [some (.d (.scr ns)), some (.d (.int k)), none, none] := rfl
  rw [er]
  obtain ⟨x, hx⟩ : ∃ x : Int, x = if k < ns.length then (atI ns k).getD 0 else 0 := ⟨_, rfl⟩
  obtain ⟨s1, e1⟩ : ∃ s1 : Int, s1 = (x * 16807 + 60919 * k + 31) % 2147481173 := ⟨_, rfl⟩
  have q0 : 0 ≤ s1 := by rw [e1]; exact Int.emod_nonneg _ (by decide)
  have q1 : s1 < 2147481173 := by rw [e1]; exact Int.emod_lt_of_pos _ (by decide)
  have m1 : mulOk x 16807 = true := mulOk_r (by decide) (by decide)
  have m2 : mulOk 60919 k = true := mulOk_l (by decide) (by decide)
  have m3 : mulOk s1 s1 = true := mulOk_l (by omega) (by omega)
  have m4 : mulOk 2 k = true := mulOk_l (by decide) (by decide)
  have cp : (2 : Nat) ≤ cap := by decide
  refine ⟨if 1000000000000000000 ≤ x then x else 0, s1 * s1 % 2147481151 + 2 * k + 5, ?_⟩
  by_cases hk : k < ns.length
  · have ha : atI ns k = some x := by
      rw [if_pos hk] at hx
      have hn : k.toNat < ns.length := by omega
      have : atI ns k = some ns[k.toNat] := by
        have := atI_nat (xs := ns) (j := k.toNat) (List.getElem?_eq_getElem hn)
        rw [Int.toNat_of_nonneg h0] at this
        exact this
      rw [hx, this]; rfl
    by_cases hx2 : 1000000000000000000 ≤ x
    · simp [sSeq, sIf, bT, eOp, eV, eC, op2, view, ixD, ha, cmpD, asB, Out.bind, toSB, sSet, toS, eBi, aCons, aNil, opA, viewA, intD, lenD, hk, modD, mulD, m1, m2, addD, ← e1, m3, m4, sRet, eCell, eIf, powD, mkCell, allD, cp, retS, hx2]
    · simp [sSeq, sIf, bT, eOp, eV, eC, op2, view, ixD, ha, cmpD, asB, Out.bind, toSB, sSet, toS, eBi, aCons, aNil, opA, viewA, intD, lenD, hk, modD, mulD, m1, m2, addD, ← e1, m3, m4, sRet, eCell, eIf, powD, mkCell, allD, cp, retS, hx2]
  · rw [if_neg hk] at hx
    subst hx
    have e1' : s1 = (60919 * k + 31) % 2147481173 := by simpa using e1
    have m0 : mulOk 0 16807 = true := mulOk_r (by decide) (by decide)
    simp [sSeq, sIf, bT, eOp, eV, eC, op2, view, cmpD, asB, Out.bind, toSB, sSet, sNil, toS, eBi, aCons, aNil, opA, viewA, intD, lenD, hk, modD, mulD, m0, m2, addD, ← e1', m3, m4, sRet, eCell, eIf, powD, mkCell, allD, cp, retS]
/-! ### flips and scripts -/
def G_chosen (f__law_pick : List S → Mu → Out S) : FS :=
      (sRet (eOp ixD (eV 1) (eCall 2 f__law_pick (aCons (eV 0) (aCons (eBi lenD (aCons (eV 1) aNil)) aNil)))))
def g_chosen : List S → Mu → Out S := fnD 2 (G_chosen g_pick)
def G_flip : FS :=
      (sSeq (sSet 1 (eCall 2 g_pick (aCons (eV 0) (aCons (eC (.int 13)) aNil))))
      (sRet (eIf (bT (eOp ltD (eV 1) (eC (.int 7)))) (eTup (aCons (eC (.str "but")) (aCons (eV 1) aNil))) (eTup (aCons (eC (.str "top")) (aCons (eOp subD (eV 1) (eC (.int 6))) aNil))))))
def g_flip : List S → Mu → Out S := fnD 2 G_flip
def G_script : FS :=
      (sRet (eBi tupleD (aCons (eLc (iRange1 (aCons (eCall 2 g_pick (aCons (eV 0) (aCons (eOp addD (eV 1) (eC (.int 1))) aNil))) aNil)) (gN 2) bYes (eCall 1 g_flip (aCons (eV 0) aNil)) [2]) aNil)))
def g_script : List S → Mu → Out S := fnD 3 G_script
/-- a flip: whether the word is top, and how many -/
abbrev Fl := Bool × Int
def encF (f : Fl) : D := .tup [.str (if f.1 = true then "top" else "but"), .int f.2]
def okF (f : Fl) : Prop := (if f.1 = true then 1 else 0) ≤ f.2 ∧ f.2 ≤ 6
def encS (l : List Fl) : D := .tup (l.map encF)
theorem cap2 : (2 : Nat) ≤ cap := by decide
theorem atI_zero {α : Type} (a : α) (l : List α) : atI (a :: l) 0 = some a := by simp [atI, ixN]
theorem atI_some {α : Type} {l : List α} {r : Int} (h0 : 0 ≤ r) (h1 : r < l.length) : ∃ d, atI l r = some d ∧ d ∈ l := by
  have hn : r.toNat < l.length := by omega
  refine ⟨l[r.toNat], ?_, List.getElem_mem hn⟩
  have := atI_nat (xs := l) (j := r.toNat) (List.getElem?_eq_getElem hn)
  rw [Int.toNat_of_nonneg h0] at this
  exact this
theorem take_len {μ : Mu} {n m : Nat} (h : μ.length = n) (h2 : m = n) : μ.take m = μ := by
  rw [List.take_of_length_le]; omega
theorem chosen_ok {μ : Mu} {k n : Nat} {l : List D} (h : Src μ k n) (hl : 0 < l.length) (hb : l.length < 1000) : ∃ d μ', g_chosen [.c k, .d (.lst l)] μ = .ok (.d d) μ' ∧ Stp k μ μ' ∧ d ∈ l := by
  have hb2 : ((l.length : Int)).natAbs.log2 < 9000 := by
    have : ((l.length : Int)).natAbs = l.length := by omega
    rw [this]
    exact Nat.lt_of_le_of_lt (Nat.log2_le_self _) (by omega)
  obtain ⟨r, μ', e, h', r0, r1⟩ := pick_ok h (many := l.length) (by omega) hb2
  obtain ⟨d, hd, hm⟩ := atI_some r0 r1
  refine ⟨d, μ', ?_, h', hm⟩
  unfold g_chosen fnD G_chosen
  have er : rho0 2 [S.c k, .d (.lst l)] = [some (.c k), some (.d (.lst l))] := rfl
  rw [er]
  simp [sRet, eOp, eV, eCall, aCons, aNil, eBi, opA, viewA, view, lenD, Out.bind, e, toS, op2, ixD, hd, retS, take_len (h'.len) rfl]
theorem flip_ok {μ : Mu} {k n : Nat} (h : Src μ k n) : ∃ f μ', g_flip [.c k] μ = .ok (.d (encF f)) μ' ∧ Stp k μ μ' ∧ okF f := by
  obtain ⟨r, μ', e, h', r0, r1⟩ := pick_ok h (many := 13) (by decide) (by decide)
  have er : rho0 2 [S.c k] = [some (.c k), none] := rfl
  by_cases hr : r < 7
  · refine ⟨(false, r), μ', ?_, h', by unfold okF; simp; omega⟩
    unfold g_flip fnD G_flip
    rw [er]
    simp [sSeq, sSet, eCall, aCons, eV, eC, aNil, Out.bind, e, toS, sRet, eIf, bT, eOp, op2, view, cmpD, hr, asB, eTup, mkTup, allD, cap2, retS, encF, take_len (h'.len) rfl]
  · refine ⟨(true, r - 6), μ', ?_, h', by unfold okF; simp; omega⟩
    unfold g_flip fnD G_flip
    rw [er]
    simp [sSeq, sSet, eCall, aCons, eV, eC, aNil, Out.bind, e, toS, sRet, eIf, bT, eOp, op2, view, cmpD, hr, asB, eTup, mkTup, allD, cap2, retS, encF, take_len (h'.len) rfl, subD]
/-- a comprehension whose element is drawn -/
theorem lc_draw {k n : Nat} {fe : FE} {ρ : Rho} {i : Nat} {P : D → Prop} (hf : ∀ x μ, Src μ k n → ∃ d μ', fe (ρ.set i (some (.d x))) μ = .ok (.d d) μ' ∧ Stp k μ μ' ∧ P d) : ∀ (l : List D) (μ : Mu), Src μ k n →
    ∃ ds μ', lcD (gN i) bYes fe ρ l μ = .ok ds μ' ∧ Stp k μ μ' ∧ (∀ d ∈ ds, P d) ∧ ds.length = l.length
  | [], μ, h => ⟨[], μ, rfl, h.refl, fun _ z => (by cases z), rfl⟩
  | x :: l, μ, h => by
    obtain ⟨d, μ1, e1, h1, p1⟩ := hf x μ h
    obtain ⟨ds, μ2, e2, h2, p2, q2⟩ := lc_draw hf l μ1 (h1.src h)
    refine ⟨d :: ds, μ2, ?_, h1.trans h2, fun y hy => ?_, by simp [q2]⟩
    · simp [lcD, gN, bYes, e1, e2]
    · rcases List.mem_cons.mp hy with z | z
      · rw [z]; exact p1
      · exact p2 y z
theorem all_enc : ∀ {ds : List D}, (∀ d ∈ ds, ∃ f, d = encF f ∧ okF f) → ∃ l : List Fl, ds = l.map encF ∧ (∀ f ∈ l, okF f) ∧ l.length = ds.length
  | [], _ => ⟨[], rfl, fun _ z => (by cases z), rfl⟩
  | d :: ds, h => by
    obtain ⟨f, e, p⟩ := h d List.mem_cons_self
    obtain ⟨l, e2, p2, q2⟩ := all_enc (ds := ds) fun x hx => h x (List.mem_cons_of_mem _ hx)
    refine ⟨f :: l, by rw [e, e2]; rfl, fun x hx => ?_, by simp [q2]⟩
    rcases List.mem_cons.mp hx with z | z
    · rw [z]; exact p
    · exact p2 x z
theorem script_ok {μ : Mu} {k n : Nat} {most : Int} (h : Src μ k n) (h0 : 0 ≤ most) (h1 : most < 1000) : ∃ l μ', g_script [.c k, .d (.int most)] μ = .ok (.d (encS l)) μ' ∧ Stp k μ μ' ∧ (∀ f ∈ l, okF f) ∧ l.length ≤ most.toNat := by
  have hb : (most + 1).natAbs.log2 < 9000 := Nat.lt_of_le_of_lt (Nat.log2_le_self _) (by omega)
  obtain ⟨r, μ1, e1, hs1, r0, r1⟩ := pick_ok h (many := most + 1) (by omega) hb
  have er : rho0 3 [S.c k, .d (.int most)] = [some (.c k), some (.d (.int most)), none] := rfl
  have hR : bigR r := by unfold bigR; omega
  have hc : r.toNat ≤ cap := by unfold cap; omega
  obtain ⟨ds, μ2, e2, hs2, p2, q2⟩ := lc_draw (k := k) (n := n) (fe := eCall 1 g_flip (aCons (eV 0) aNil)) (ρ := [some (.c k), some (.d (.int most)), none]) (i := 2) (P := fun d => ∃ f, d = encF f ∧ okF f) (fun x μ hμ => by
    obtain ⟨f, μ', e, h', p⟩ := flip_ok hμ
    refine ⟨encF f, μ', ?_, h', f, rfl, p⟩
    simp [eCall, aCons, eV, aNil, Out.bind, e]) (upD 0 r.toNat) μ1 (hs1.src h)
  obtain ⟨l, e3, p3, q3⟩ := all_enc p2
  refine ⟨l, μ2, ?_, hs1.trans hs2, p3, by rw [q3, q2, upD_len]; omega⟩
  unfold g_script fnD G_script
  rw [er]
  simp [sRet, eBi, aCons, aNil, eLc, iRange1, eCall, eV, eC, eOp, op2, view, addD, Out.bind, e1, rng1, hR, upD_len, hc, wipeR, e2, mkL, opA, viewA, tupleD, toS, retS, take_len (hs1.trans hs2).len rfl, e3, encS]
end GF

set_option maxHeartbeats 2000000
/-! Plain data: no function, no class, no source within; how deep. -/
namespace GF
open PySem PySem.Spec PyProof.Rows L2
mutual
def dat : Nat → D → Bool
  | _, .non => true
  | _, .bl _ => true
  | _, .int _ => true
  | _, .str x => PyData.strOk x
  | 0, .tup _ => false
  | k + 1, .tup l => datA k l
  | 0, .lst _ => false
  | k + 1, .lst l => datA k l
  | _, .scr _ => false
  | _, .fn _ => false
  | _, .ty _ => false
  | _, .adr _ => false
  | _, .dic _ _ => false
def datA : Nat → List D → Bool
  | _, [] => true
  | k, d :: l => dat k d && datA k l
end
theorem datA_all {k : Nat} : ∀ {l : List D}, datA k l = true ↔ ∀ d ∈ l, dat k d = true
  | [] => by simp [datA]
  | d :: l => by simp [datA, datA_all (l := l)]
mutual
theorem dat_shape : ∀ (k : Nat) (d : D), dat k d = true → (toPy d).canLay0 = true ∧ (toPy d).depth ≤ k
  | _, .non, _ => by simp [toPy, PyData.canLay0, PyData.depth]
  | _, .bl _, _ => by simp [toPy, PyData.canLay0, PyData.depth]
  | _, .int _, _ => by simp [toPy, PyData.canLay0, PyData.depth]
  | _, .str x, h => by simp [dat] at h; simp [toPy, PyData.canLay0, PyData.depth, h]
  | 0, .tup _, h => by simp [dat] at h
  | k + 1, .tup l, h => by
    have := datA_shape k l (by simpa [dat] using h)
    simp [toPy, PyData.canLay0, PyData.depth, this.1, this.2]
  | 0, .lst _, h => by simp [dat] at h
  | k + 1, .lst l, h => by
    have := datA_shape k l (by simpa [dat] using h)
    simp [toPy, PyData.canLay0, PyData.depth, this.1, this.2]
  | _, .scr _, h => by simp [dat] at h
  | _, .fn _, h => by simp [dat] at h
  | _, .ty _, h => by simp [dat] at h
  | _, .adr _, h => by simp [dat] at h
  | _, .dic _ _, h => by simp [dat] at h
theorem datA_shape : ∀ (k : Nat) (l : List D), datA k l = true → PyData.canLayAll0 (toPyA l) = true ∧ PyData.depthAll (toPyA l) ≤ k
  | _, [], _ => by simp [toPyA, PyData.canLayAll0, PyData.depthAll]
  | k, d :: l, h => by
    simp [datA] at h
    have h1 := dat_shape k d h.1
    have h2 := datA_shape k l h.2
    simp [toPyA, PyData.canLayAll0, PyData.depthAll, h1.1, h2.1]
    omega
end
theorem shaped_of {k : Nat} {d : D} (h : dat k d = true) (hk : k ≤ 64) : SeqAt.shaped (toPy d) = true := by
  obtain ⟨h1, h2⟩ := dat_shape k d h
  unfold SeqAt.shaped
  rw [h1, decide_eq_true (by omega)]; rfl
mutual
theorem dat_mono : ∀ {k j : Nat} {d : D}, dat k d = true → k ≤ j → dat j d = true
  | _, _, .non, _, _ => by simp [dat]
  | _, _, .bl _, _, _ => by simp [dat]
  | _, _, .int _, _, _ => by simp [dat]
  | _, _, .str x, h, _ => by simpa [dat] using h
  | 0, _, .tup _, h, _ => by simp [dat] at h
  | k + 1, 0, .tup l, h, hj => by omega
  | k + 1, j + 1, .tup l, h, hj => by
    simp [dat] at h ⊢
    exact datA_mono h (by omega)
  | 0, _, .lst _, h, _ => by simp [dat] at h
  | k + 1, 0, .lst l, h, hj => by omega
  | k + 1, j + 1, .lst l, h, hj => by
    simp [dat] at h ⊢
    exact datA_mono h (by omega)
  | _, _, .scr _, h, _ => by simp [dat] at h
  | _, _, .fn _, h, _ => by simp [dat] at h
  | _, _, .ty _, h, _ => by simp [dat] at h
  | _, _, .adr _, h, _ => by simp [dat] at h
  | _, _, .dic _ _, h, _ => by simp [dat] at h
theorem datA_mono : ∀ {k j : Nat} {l : List D}, datA k l = true → k ≤ j → datA j l = true
  | _, _, [], _, _ => by simp [datA]
  | k, j, d :: l, h, hj => by
    simp [datA] at h ⊢
    exact ⟨dat_mono h.1 hj, datA_mono h.2 hj⟩
end
theorem shaped_str {x : Str} (h : PyData.strOk x = true) : SeqAt.shaped (toPy (.str x)) = true := shaped_of (k := 0) (by simpa [dat] using h) (by decide)
theorem shaped_int (i : Int) : SeqAt.shaped (toPy (.int i)) = true := shaped_of (k := 0) (by simp [dat]) (by decide)
theorem shaped_bl (i : Bool) : SeqAt.shaped (toPy (.bl i)) = true := shaped_of (k := 0) (by simp [dat]) (by decide)
theorem shaped_non : SeqAt.shaped (toPy .non) = true := shaped_of (k := 0) (by simp [dat]) (by decide)
theorem eqv_str (x y : Str) : eqvD (.str x) (.str y) = decide (x = y) := by
  simp only [eqvD, toPy, PyData.eqv]
  rw [Bool.eq_iff_iff]; simp
theorem eqv_int (x y : Int) : eqvD (.int x) (.int y) = decide (x = y) := by
  simp only [eqvD, toPy, PyData.eqv]
  rw [Bool.eq_iff_iff]; simp
theorem eqv_bl (x y : Bool) : eqvD (.bl x) (.bl y) = decide (x = y) := by
  simp only [eqvD, toPy, PyData.eqv]
  rw [Bool.eq_iff_iff]; simp
theorem encF_dat {f : Fl} : dat 1 (encF f) = true := by
  unfold encF
  simp [dat, datA]
  cases f.1 <;> decide +kernel
theorem encS_dat (l : List Fl) : dat 2 (encS l) = true := by
  unfold encS
  rw [dat, datA_all]
  intro d hd
  obtain ⟨f, _, rfl⟩ := List.mem_map.mp hd
  exact encF_dat
/-! ### comprehensions whose parts leave the cells as they are -/
theorem lc_pure {fe : FE} {ρ : Rho} {i : Nat} {μ : Mu} (g : D → D) : ∀ (l : List D), (∀ x ∈ l, fe (ρ.set i (some (.d x))) μ = .ok (.d (g x)) μ) → lcD (gN i) bYes fe ρ l μ = .ok (l.map g) μ
  | [], _ => rfl
  | x :: l, h => by
    have h1 := h x List.mem_cons_self
    have h2 := lc_pure (fe := fe) (ρ := ρ) (i := i) (μ := μ) g l fun y hy => h y (List.mem_cons_of_mem _ hy)
    simp [lcD, gN, bYes, h1]
    rw [h2]
theorem lc_filter {ft : FB} {fe : FE} {ρ : Rho} {i : Nat} {μ : Mu} (p : D → Bool) (g : D → D) : ∀ (l : List D), (∀ x ∈ l, ft (ρ.set i (some (.d x))) μ = .ok (p x) μ) → (∀ x ∈ l, p x = true → fe (ρ.set i (some (.d x))) μ = .ok (.d (g x)) μ) →
    lcD (gN i) ft fe ρ l μ = .ok ((l.filter p).map g) μ
  | [], _, _ => rfl
  | x :: l, h, h' => by
    have h1 := h x List.mem_cons_self
    have h2 := lc_filter (ft := ft) (fe := fe) (ρ := ρ) (i := i) (μ := μ) p g l (fun y hy => h y (List.mem_cons_of_mem _ hy)) fun y hy => h' y (List.mem_cons_of_mem _ hy)
    have e : gN i x ρ = some (ρ.set i (some (.d x))) := rfl
    unfold lcD
    rw [e]
    dsimp only
    rw [h1]
    cases hp : p x with
    | false =>
      dsimp only
      rw [h2, List.filter_cons_of_neg (by simp [hp])]
    | true =>
      dsimp only
      rw [h' x List.mem_cons_self hp]
      dsimp only
      rw [h2, List.filter_cons_of_pos hp, List.map_cons]
theorem allBl_map (p : D → Bool) : ∀ l : List D, allBl (l.map fun x => .bl (p x)) = some (l.map p)
  | [] => rfl
  | x :: l => by simp [allBl, allBl_map p l]
/-! ### how long, all within -/
mutual
def small : Nat → D → Bool
  | N, .tup l => decide (l.length ≤ N) && smallA N l
  | N, .lst l => decide (l.length ≤ N) && smallA N l
  | _, _ => true
def smallA : Nat → List D → Bool
  | _, [] => true
  | N, d :: l => small N d && smallA N l
end
theorem smallA_all {N : Nat} : ∀ {l : List D}, smallA N l = true ↔ ∀ d ∈ l, small N d = true
  | [] => by simp [smallA]
  | d :: l => by simp [smallA, smallA_all (l := l)]
mutual
theorem small_mono {N M : Nat} (h : N ≤ M) : ∀ {d : D}, small N d = true → small M d = true
  | .non, _ => by simp [small]
  | .bl _, _ => by simp [small]
  | .int _, _ => by simp [small]
  | .str _, _ => by simp [small]
  | .scr _, _ => by simp [small]
  | .fn _, _ => by simp [small]
  | .ty _, _ => by simp [small]
  | .adr _, _ => by simp [small]
  | .dic _ _, _ => by simp [small]
  | .tup l, q => by
    simp [small] at q ⊢
    exact ⟨by omega, smallA_mono h q.2⟩
  | .lst l, q => by
    simp [small] at q ⊢
    exact ⟨by omega, smallA_mono h q.2⟩
theorem smallA_mono {N M : Nat} (h : N ≤ M) : ∀ {l : List D}, smallA N l = true → smallA M l = true
  | [], _ => by simp [smallA]
  | d :: l, q => by
    simp [smallA] at q ⊢
    exact ⟨small_mono h q.1, smallA_mono h q.2⟩
end
theorem push_get {μ : Mu} {c : Cell} : (μ ++ [c])[μ.length]? = some c := by simp
theorem addD_int (i j : Int) : addD (.int i) (.int j) = some (.int (i + j)) := rfl
theorem addD_lst {a b : List D} (h : a.length + b.length ≤ cap) : addD (.lst a) (.lst b) = some (.lst (a ++ b)) := by simp [addD, h]
theorem addD_tup {a b : List D} (h : a.length + b.length ≤ cap) : addD (.tup a) (.tup b) = some (.tup (a ++ b)) := by simp [addD, h]
theorem sIx_int {n d : Nat} {a : Int} (h : 0 ≤ a) : HT.sIx n d (some a) = min a.toNat n := by
  obtain ⟨k, rfl⟩ : ∃ k : Nat, a = k := ⟨a.toNat, by omega⟩
  rw [HT.sIx_nat]; simp
theorem cut_to {l : List D} {a : Int} (h : 0 ≤ a) : cutL l none (some a) = l.take a.toNat := by
  unfold cutL
  rw [HT.sIx_none, sIx_int h, List.drop_zero, Nat.sub_zero]
  rcases Nat.le_total a.toNat l.length with q | q
  · rw [Nat.min_eq_left q]
  · rw [Nat.min_eq_right q, List.take_length, List.take_of_length_le q]
theorem cut_from {l : List D} {a : Int} (h : 0 ≤ a) : cutL l (some a) none = l.drop a.toNat := by
  unfold cutL
  rw [HT.sIx_none, sIx_int h]
  rcases Nat.le_total a.toNat l.length with q | q
  · rw [Nat.min_eq_left q, List.take_of_length_le (by simp)]
  · rw [Nat.min_eq_right q, List.drop_length, List.drop_of_length_le q]; simp
theorem cut_mid {l : List D} {a b : Int} (h : 0 ≤ a) (h' : 0 ≤ b) (hb : a ≤ b) : cutL l (some a) (some b) = (l.drop a.toNat).take (b.toNat - a.toNat) := by
  unfold cutL
  rw [sIx_int h, sIx_int h']
  rcases Nat.le_total a.toNat l.length with q | q
  · rw [Nat.min_eq_left q]
    rcases Nat.le_total b.toNat l.length with q' | q'
    · rw [Nat.min_eq_left q']
    · rw [Nat.min_eq_right q', List.take_of_length_le (by simp), List.take_of_length_le (by simp; omega)]
  · rw [Nat.min_eq_right q, List.drop_length, List.drop_of_length_le q]; simp
theorem stp_take {k : Nat} {μ μ' : Mu} (hl : μ.length ≤ μ'.length) (hk : k < μ.length) (ho : ∀ j, j ≠ k → j < μ.length → μ'[j]? = μ[j]?) (ha : ∃ a b, μ'[k]? = some (.lst [.int a, .int b])) : Stp k μ (μ'.take μ.length) := by
  refine ⟨by rw [List.length_take]; omega, fun j hj => ?_, ?_⟩
  · rw [List.getElem?_take]
    split
    · rename_i q; exact ho j hj q
    · rename_i q; rw [List.getElem?_eq_none (by omega)]
  · obtain ⟨a, b, e⟩ := ha
    refine ⟨a, b, ?_⟩
    rw [List.getElem?_take, if_pos hk]; exact e
theorem Src.push {μ : Mu} {k n : Nat} (h : Src μ k n) (c : Cell) : Src (μ ++ [c]) k (n + 1) := by
  refine ⟨by rw [List.length_append, h.len]; rfl, ?_⟩
  obtain ⟨a, b, e⟩ := h.at_
  exact ⟨a, b, by rw [List.getElem?_append_left (get_lt e)]; exact e⟩
/-- a def's own cell on top, the source moved on beneath it -/
theorem stp_pop {k n : Nat} {μ μ' : Mu} {c : Cell} (h : Src μ k n) (s : Stp k (μ ++ [c]) μ') : Stp k μ (μ'.take μ.length) := by
  refine stp_take (by rw [s.len]; simp) (by rw [h.len]; exact h.lt) (fun j hj hl => ?_) s.at_
  rw [s.oth j hj, List.getElem?_append_left hl]
theorem stp_own {k n : Nat} {μ μ' : Mu} {c : Cell} (h : Src μ k n) (s : Stp k (μ ++ [c]) μ') : μ'[μ.length]? = some c := by
  rw [s.oth _ (by have := h.lt; have := h.len; omega)]; simp
theorem datA_sub {k : Nat} {l l' : List D} (h : datA k l = true) (q : ∀ x ∈ l', x ∈ l) : datA k l' = true := datA_all.mpr fun x hx => datA_all.mp h x (q x hx)
theorem smallA_sub {k : Nat} {l l' : List D} (h : smallA k l = true) (q : ∀ x ∈ l', x ∈ l) : smallA k l' = true := smallA_all.mpr fun x hx => smallA_all.mp h x (q x hx)
/-! ### a loop by what holds between two turns -/
theorem forD_inv {t : D → Rho → Option Rho} {body : FS} (I : Rho → Mu → Prop) : ∀ (l : List D) {ρ : Rho} {μ : Mu}, (∀ x ∈ l, ∀ ρ μ, I ρ μ → ∃ ρ1, t x ρ = some ρ1 ∧ ∃ ρ2 μ2, body ρ1 μ = .nx ρ2 μ2 ∧ I ρ2 μ2) → I ρ μ → ∃ ρ' μ', forD t body l ρ μ = .nx ρ' μ' ∧ I ρ' μ'
  | [], ρ, μ, _, h => ⟨ρ, μ, rfl, h⟩
  | x :: l, ρ, μ, hs, h => by
    obtain ⟨ρ1, e1, ρ2, μ2, e2, h2⟩ := hs x List.mem_cons_self ρ μ h
    obtain ⟨ρ', μ', e3, h3⟩ := forD_inv I l (fun y hy => hs y (List.mem_cons_of_mem _ hy)) h2
    refine ⟨ρ', μ', ?_, h3⟩
    simp only [forD]
    rw [e1]
    dsimp only
    rw [e2]
    exact e3
theorem upD_mem : ∀ {n : Nat} {lo : Int} {x : D}, x ∈ upD lo n → ∃ i : Int, x = .int i ∧ lo ≤ i ∧ i < lo + n
  | 0, lo, x, h => by simp [upD] at h
  | n + 1, lo, x, h => by
    rcases List.mem_cons.mp (show x ∈ .int lo :: upD (lo + 1) n from h) with z | z
    · exact ⟨lo, z, by omega, by omega⟩
    · obtain ⟨i, e, h1, h2⟩ := upD_mem z
      exact ⟨i, e, by omega, by omega⟩
theorem small_encS {l : List Fl} {N : Nat} (h : l.length ≤ N) (h2 : 2 ≤ N) : small N (encS l) = true ∧ smallA N (l.map encF) = true := by
  have : smallA N (l.map encF) = true := smallA_all.mpr fun x hx => by
    obtain ⟨f, _, rfl⟩ := List.mem_map.mp hx
    simp [encF, small, smallA, h2]
  refine ⟨?_, this⟩
  unfold encS
  simp [small, this, h]
end GF

set_option maxHeartbeats 2000000
/-! A comprehension over a list of pairs while an exception is handled. -/
namespace GF
open PySem PySem.Spec PyProof.Rows L2

/-! ### at the library's level -/
section
variable {prog : Program} {w : World} {A : Around} {E : Value → Shared → Prop} {s : Shared}
theorem list_end_hot {it l x1 : Addr} {i : Nat} {items} {Q : Option Value → Shared → Prop} (hot : HotX.HotAt A x1 s.heap) (hne : x1 ≠ it) (hit : s.heap.IsListIter it l i) (hl : s.heap.IsList l items) (hx : items[i]? = none)
    (hQ : ∀ h', (∀ b o, b ≠ it → s.heap.get? b = some o → h'.get? b = some o) → Q none { s with heap := h' }) : wpAny (model prog w) A (pyNext (.ref it)) Q E s := by
  obtain ⟨hh, o1, vs1, g1, g2, g3⟩ := hot; obtain ⟨o, ho, hc, hd⟩ := id hit; obtain ⟨ol, hol, _, nl, hdl⟩ := hl; unfold pyNext
  refine wpAny_bind (wpAny_attempt (wpAny_callSpecial?_slot (name := Str.ofString "__next__") hit.typeIs slot_listiter_next (wpAny_call_entry slot_listiter_next hit.typeIs entry_listiter_next ?_ (args_listiter_next _))))
  show wpAny _ _ (field (.ref it) 0 >>= _) _ _ s; refine wpAny_bind (wpAny_field ho hd (x := .ref l) rfl ?_)
  show wpAny _ _ (if (Value.ref l == Value.none) = true then _ else _) _ _ s; rw [if_neg (show ¬ ((Value.ref l == Value.none) = true) from Bool.false_ne_true)]
  show wpAny _ _ (field (.ref it) 1 >>= _) _ _ s; refine wpAny_bind (wpAny_field ho hd (x := .int i 0) rfl ?_)
  show wpAny _ _ (seqItems? (.ref l) >>= _) _ _ s; refine wpAny_bind (wpAny_seqItems hol hdl ?_); simp only [Int.toNat_natCast, hx]
  refine wpAny_bind (wpAny_rule (wpAny_bind (wpAny_setField ho hd (by simp) ?_)))
  show wpAny _ _ (newExc (.type "StopIteration") [] >>= _) _ _ _; refine wpAny_bind ?_; simp only [newExc, newTuple]
  have k1 : (s.heap.update it (Obj.mapFields (·.setIfInBounds 0 .none))).get? x1 = some o1 := (Heap.get?_update_other _ _ (Ne.symm hne)).trans g1
  refine wpAny_bind (wpAny_newObj_type ?_ (by size_fits)); refine wpAny_bind (m := firstArgMember _ _) (wpAny_of_eq (a := Value.none) (by first | rfl | (simp only [firstArgMember]; rfl)) ?_); refine wpAny_newObj_type ?_ (by size_fits)
  refine HotX.raiseNew_hot ⟨hh, o1, vs1, Heap.get?_push_of_some _ (Heap.get?_push_of_some _ k1), g2, g3⟩ (Nat.ne_of_lt (Heap.lt_size (Heap.get?_push_of_some _ k1))) (Heap.get?_push_size _ rfl) rfl (by first | (simp; done) | (simp; omega) | (simp only [Array.size_append]; simp; omega)) ?_
  refine wpAny_bind (wpAny_isInstance (T := "StopIteration") (b := true) ⟨_, Heap.get?_update_self _ (Heap.get?_push_size _ rfl) rfl, rfl⟩ isSubtype_stop ?_)
  refine wpAny_pure (hQ _ fun b o hb e => ?_)
  have e2 : (s.heap.update it (Obj.mapFields (·.setIfInBounds 0 .none))).get? b = some o := (Heap.get?_update_other _ _ (Ne.symm hb)).trans e
  exact (Heap.get?_update_other _ _ (Nat.ne_of_gt (Heap.lt_size (Heap.get?_push_of_some _ e2)))).trans (Heap.get?_push_of_some _ (Heap.get?_push_of_some _ e2))
theorem tup_end_hot {it t x1 : Addr} {i : Nat} {items} {Q : Option Value → Shared → Prop} (hot : HotX.HotAt A x1 s.heap) (hne : x1 ≠ it) (hit : IsTupIter s.heap it t i) (ht : IsTup s.heap t items) (hx : items[i]? = none)
    (hQ : ∀ h', (∀ b o, b ≠ it → s.heap.get? b = some o → h'.get? b = some o) → Q none { s with heap := h' }) : wpAny (model prog w) A (pyNext (.ref it)) Q E s := by
  obtain ⟨hh, o1, vs1, g1, g2, g3⟩ := hot; obtain ⟨o, ho, hc, hd⟩ := id hit; obtain ⟨ol, hol, _, nl, hdl⟩ := ht; unfold pyNext
  refine wpAny_bind (wpAny_attempt (wpAny_callSpecial?_slot (name := Str.ofString "__next__") hit.typeIs slot_tupleiter_next (wpAny_call_entry slot_tupleiter_next hit.typeIs entry_tupleiter_next ?_ (args_tupleiter_next _))))
  show wpAny _ _ (field (.ref it) 0 >>= _) _ _ s; refine wpAny_bind (wpAny_field ho hd (x := .ref t) rfl ?_)
  show wpAny _ _ (if (Value.ref t == Value.none) = true then _ else _) _ _ s; rw [if_neg (show ¬ ((Value.ref t == Value.none) = true) from Bool.false_ne_true)]
  show wpAny _ _ (field (.ref it) 1 >>= _) _ _ s; refine wpAny_bind (wpAny_field ho hd (x := .int i 0) rfl ?_)
  show wpAny _ _ (seqItems? (.ref t) >>= _) _ _ s; refine wpAny_bind (wpAny_seqItems hol hdl ?_); simp only [Int.toNat_natCast, hx]
  refine wpAny_bind (wpAny_rule (wpAny_bind (wpAny_setField ho hd (by simp) ?_)))
  show wpAny _ _ (newExc (.type "StopIteration") [] >>= _) _ _ _; refine wpAny_bind ?_; simp only [newExc, newTuple]
  have k1 : (s.heap.update it (Obj.mapFields (·.setIfInBounds 0 .none))).get? x1 = some o1 := (Heap.get?_update_other _ _ (Ne.symm hne)).trans g1
  refine wpAny_bind (wpAny_newObj_type ?_ (by size_fits)); refine wpAny_bind (m := firstArgMember _ _) (wpAny_of_eq (a := Value.none) (by first | rfl | (simp only [firstArgMember]; rfl)) ?_); refine wpAny_newObj_type ?_ (by size_fits)
  refine HotX.raiseNew_hot ⟨hh, o1, vs1, Heap.get?_push_of_some _ (Heap.get?_push_of_some _ k1), g2, g3⟩ (Nat.ne_of_lt (Heap.lt_size (Heap.get?_push_of_some _ k1))) (Heap.get?_push_size _ rfl) rfl (by first | (simp; done) | (simp; omega) | (simp only [Array.size_append]; simp; omega)) ?_
  refine wpAny_bind (wpAny_isInstance (T := "StopIteration") (b := true) ⟨_, Heap.get?_update_self _ (Heap.get?_push_size _ rfl) rfl, rfl⟩ isSubtype_stop ?_)
  refine wpAny_pure (hQ _ fun b o hb e => ?_)
  have e2 : (s.heap.update it (Obj.mapFields (·.setIfInBounds 0 .none))).get? b = some o := (Heap.get?_update_other _ _ (Ne.symm hb)).trans e
  exact (Heap.get?_update_other _ _ (Nat.ne_of_gt (Heap.lt_size (Heap.get?_push_of_some _ e2)))).trans (Heap.get?_push_of_some _ (Heap.get?_push_of_some _ e2))
/-- (a, b, ..) = t, t a tuple of that length -/
theorem unpack_hot {env : Env} {elts : List Expr} {k1} {pos : Pos} {t x1 : Addr} {items : Array Value} {Q : Unit → Shared → Prop} (hot : HotX.HotAt A x1 s.heap) (ht : IsTup s.heap t items) (hn : (assignEach elts env).length = items.size) (hstar : (assignEach elts env).findIdx? (·.1) = none)
    (h : ∀ h', Heap.ExtBut s.heap.objs.size s.heap h' → wpAny (model prog w) A (assignInOrder ((assignEach elts env).map (·.2)) items.toList) Q E { s with heap := h' }) : wpAny (model prog w) A (assign (.Tuple elts k1 pos) env (.ref t)) Q E s := by
  have hlt : t ≠ s.heap.objs.size := by obtain ⟨o, ho, _⟩ := ht; exact Nat.ne_of_lt (Heap.lt_size ho)
  rw [assign_Tuple]; refine wpAny_bind (wpAny_standAt ?_); unfold unpack; rw [hn, hstar]; refine wpAny_bind (wpAny_holding ?_)
  unfold unpackItems; refine wpAny_bind ?_; unfold notIterableAtAll
  refine wpAny_bind (wpAny_specialOf ht.typeIs slot_tuple_iter.lookup ?_); refine wpAny_pure ?_; simp only [Bool.false_eq_true, if_false]
  refine wpAny_bind (wpAny_holding (iter_tuple ht ?_))
  refine wpAny_bind (wpAny_holding (draw_tuple hlt items.size 0 _ _ ⟨_, Heap.get?_push_size _ rfl, rfl, rfl⟩ (ht.push _) (by omega) fun h₁ hit₁ hs₁ => ?_))
  have hall : List.take items.size (List.drop 0 items.toList) = items.toList := by rw [List.drop_zero]; exact List.take_of_length_le (by simp)
  rw [hall, if_neg (by simp)]
  obtain ⟨hh, o1, vs1, g1, g2, g3⟩ := hot
  have nx : x1 ≠ s.heap.objs.size := Nat.ne_of_lt (Heap.lt_size g1)
  refine wpAny_bind (wpAny_holding (tup_end_hot (x1 := x1) ⟨hh, o1, vs1, hs₁.extBut x1 o1 nx (Heap.get?_push_of_some _ g1), g2, g3⟩ nx hit₁ ((ht.push _).extBut hs₁.extBut hlt) (by simp) fun h₂ he₂ => ?_))
  simp only [Option.isSome_none, Bool.false_eq_true, if_false]
  exact wpAny_pure (h h₂ fun b o hb e => he₂ b o hb (hs₁.extBut b o hb (Heap.get?_push_of_some _ e)))
end

/-! ### over the layer -/
theorem HotC.has {X : Cx} {pins : List (Addr × Obj)} {σ : L2.St} {H : Hp} {s : Shared} (c : L2H.HotC X) (I : Inv X pins σ H s) : ∃ x1, HotX.HotAt X.A x1 s.heap ∧ (∀ b, FpOk X pins H b → x1 ≠ b) := by
  obtain ⟨p, ⟨hh, v1, e1, c1⟩, hp⟩ := c
  exact ⟨p.1, ⟨hh, p.2, v1, (I.pin p (List.mem_append_left _ hp)).1, e1, c1⟩, fun b f => f.2.2.2.2.2 p (List.mem_append_left _ hp)⟩
theorem pg_tupH {X : Cx} {es : List Expr} {k : Nat} {t : TGs} {n : Nat} {pos : Pos} (hc : L2H.HotC X) (h : PGs X es t) (hn : (assignEach es X.env).length = n := by rfl) (hst : (assignEach es X.env).findIdx? (·.1) = none := by rfl) : PG X (.Tuple es k pos) (gTup X.K n t) := by
  refine ⟨fun pins s σ H v u Q I r ⟨a, xs, e1, hq, hl, hw⟩ => ?_⟩
  subst e1; cases r
  obtain ⟨its, rv, ht, hz⟩ := I.tuple hq
  obtain ⟨x1, hot, _⟩ := HotC.has hc I
  refine unpack_hot hot ht (by simp [hn, ← hl, rv.length]) hst fun h' hx => ?_
  have I1 : Inv X pins σ H { s with heap := h' } := I.kept (t' := s.toks) fun b o e => hx b o (Nat.ne_of_lt (Heap.lt_size e)) e
  exact h.run pins _ σ H xs _ Q I1 (by simpa using rv) hw
theorem turn_listH {P : Program} {w : World} {K : PySem.W.Frag} {tg : Expr} (a it : Addr) : L2H.TurnH P w K tg (Itl K a) [it] it (fun i h => h.IsListIter it a i) where
  mem := by simp
  obj := fun i h st b hb => by
    rw [show b = it by simpa using hb]
    obtain ⟨o, e, c, d⟩ := st
    exact ⟨o, e, fun v z => by rw [d] at z; cases z⟩
  keep := fun i h h' st k => st.at fun o e => k it (by simp) o e
  item := by
    intro X hP hw hK hc i pins s σ H E I hf st ⟨xs, x, hq, hx⟩
    subst hP hw hK
    obtain ⟨its, rv, p, hz⟩ := I.list hq
    obtain ⟨u, hu, ru⟩ := rv.get hx
    obtain ⟨f0, f1, f2, f3, f4, f5⟩ := hf it (by simp)
    refine wpAny_pyNext_list_item st p.isList (x := u) (by simpa using hu) fun h' st' sb => ?_
    have I1 : Inv X pins σ H { s with heap := h' } := I.turned (t' := s.toks) (fun b o hb e => (sb.2 b hb).trans e) f0 f1 f3 f4 f5
    obtain ⟨o, e, c, d⟩ := id st'
    exact ⟨u, rfl, go_of (s := { s with heap := h' }) e c d (by decide) ⟨x, H, I1, ru, ⟨rfl, fun ys hy => by rw [I.list_inj hy hq]; exact hx⟩, st', fun b hb => (hf b hb).1⟩⟩
  done := by
    intro X hP hw hK hc i pins s σ H E I hf st ⟨xs, hq, hx⟩
    subst hP hw hK
    obtain ⟨its, rv, p, hz⟩ := I.list hq
    obtain ⟨f0, f1, f2, f3, f4, f5⟩ := hf it (by simp)
    have hl := rv.length
    obtain ⟨x1, hot, hne⟩ := HotC.has hc I
    exact list_end_hot hot (hne it (hf it (by simp))) st p.isList (by simp; omega) fun h' eb => ⟨rfl, I.turned (t' := s.toks) (fun b o hb e => eb b o hb e) f0 f1 f3 f4 f5⟩
  self := fun _ _ _ _ _ st h => wpAny_pyIter_listiter st h
theorem pi_listH {X : Cx} {tg l : Expr} {tl : TE} (hl : PE X l tl) : L2H.PIH X tg l (fun σ H R => tl σ H fun x H1 => ∃ a xs, x = .ref a ∧ SqL X.K H1 a xs ∧ R (Itl X.K a) H1) := by
  refine ⟨fun pins s σ H R I h => ?_⟩
  refine thn (hl.run pins s σ H _ I h) fun v s1 ⟨x, H1, I1, r1, a, xs, e, hq, q⟩ => ?_
  subst e; cases r1
  obtain ⟨its, rv, p, hz⟩ := I1.list hq
  refine wpAny_pyIter_list p.isList ⟨s1.heap.objs.size, [s1.heap.objs.size], _, _, H1, rfl, I1.kept (t' := s1.toks) fun b o e => Heap.get?_push_of_some _ e, turn_listH a _, ⟨_, Heap.get?_push_size _ rfl, rfl, rfl⟩, fun b hb => ?_, q⟩
  rw [show b = s1.heap.objs.size by simpa using hb]
  exact I1.fpOk (Nat.le_refl _) (I1.hok.fresh (Nat.le_refl _))

/-! ### a comprehension's block -/
/-- the block's context, the handled exception pinned -/
abbrev blkH (X : Cx) (s : Shared) (H : Hp) (scope : Scope) (cenv : Env) (fp : List Addr) (p : Addr × Obj) : Cx := { X.blk s H scope cenv fp with pn := [p] }
section
variable {X : Cx}
theorem inv_blkH {s : Shared} {H H' : Hp} {scope : Scope} {cenv : Env} {fp : List Addr} {p : Addr × Obj} {σ : L2.St} {s' : Shared} (I : Inv (X.blk s H scope cenv fp) [] σ H' s')
    (hp : s'.heap.get? p.1 = some p.2 ∧ H' p.1 = none ∧ p.1 ≠ cenv.locals ∧ p.1 ∉ frs X.stack ∧ ∀ v, p.2.data ≠ .cell v) : Inv (blkH X s H scope cenv fp p) [] σ H' s' :=
  have k := I.ok
  ⟨⟨k.mod, k.kind, k.glob, k.blt, k.above, k.inj, k.has, k.cab, k.hd, k.frames, k.stk, k.exf, k.bs, k.bsz, k.noex, k.exfs, k.funs, k.frf⟩, I.os, I.bare, I.base, I.loc, I.cell, I.free, I.freeC, fun q hq => by rw [show q = p by simpa using (show q ∈ [p] ++ ([] : List (Addr × Obj)) from hq)]; exact hp, I.hok, I.len⟩
theorem lc_hot {pins : List (Addr × Obj)} {s : Shared} {σ : L2.St} {H : Hp} {Q : VK} {elt tg iter : Expr} {ifs : List Expr} {scope : Scope} {own : List (Str × Nat)} {pos pos' : Pos} {wi : TI} {g : TG} {tt : L2.TT} {te : TE} {use : Option (Value → Sem Unit)} {Qf : Value → Shared → Prop}
    (hc : L2H.HotC X) (hN : X.N.Nodup) (I : Inv X pins σ H s) (hi : L2H.PIH X tg iter wi) (ok : BlkOk X.N X.env.scope scope own)
    (hg : ∀ s H C cl fp p, L2H.HotC (blkH X s H scope (compEnvC scope cl C X.env) fp p) → PG (blkH X s H scope (compEnvC scope cl C X.env) fp p) tg g) (ht : ∀ s H C cl fp p, PTs (blkH X s H scope (compEnvC scope cl C X.env) fp p) ifs tt)
    (he : ∀ s H C cl fp p, PE (blkH X s H scope (compEnvC scope cl C X.env) fp p) elt te) (hs : ∀ x, foldedSetIterable iter X.env x = pure x) (h : tLc wi g tt te (own.map (·.2)) σ H Q)
    (hRR : ∀ D C s' m H', Inv X pins σ H' s' → Q (.ref D) H' → s'.heap.Ns C m → FpOk X pins H' C → compPost (model X.prog X.w) X.A X.xe use Qf (.ref D) C (.ok .next) s') :
    wpAny (model X.prog X.w) X.A (comprehension (.ListComp elt [⟨tg, iter, ifs, 0⟩] scope pos) scope X.env pos' (newList []) false (eval iter X.env) use) Qf X.xe s := by
  obtain ⟨p, hot1, hp⟩ := hc
  have P0 := I.pin p (List.mem_append_left _ hp)
  have hfr : ∀ y ∈ scope.names, y.2 = .free → ∃ c, X.env.cells.lookup y.1 = some c := fun y hy e => (ok.free y hy e).elim (fun k => I.ok.has _ (.inl k)) fun k => I.ok.has _ (.inr k)
  refine wpAny_comprehension_free (use := use) rfl hs (closure_ok hfr) ok.kind (fun y hy e => by rw [ok.uniq y hy, e]) (thn (hi.run pins s σ H _ I h) fun xv s1 hx => thn hx fun itv s2 h2 => ?_)
  obtain ⟨it, fp, tn, J, H2, e, I2, T, z2, f2, q⟩ := h2; subst e
  have P2 := I2.pin p (List.mem_append_left _ hp)
  refine wpAny_newObj_type (newEnv_comp ?_) (by show 0 ≤ sizeLine; decide)
  generalize hD : s2.heap.objs.size = D
  have hDn : H2 D = none := I2.hok.fresh (Nat.le_of_eq hD)
  obtain ⟨W, ⟨m0, w0⟩, turn⟩ := q D hDn
  generalize hs3 : ({ s2 with heap := s2.heap.push { cls := .type "list", data := .seq ([] : List Value).toArray } } : Shared) = s3
  have I3 : Inv X pins σ (upd H2 D (.lst [])) s3 := by
    rw [← hs3]; refine I2.laid (t' := s2.toks) (fun b o e => Heap.get?_push_of_some _ e) (Nat.le_of_eq hD) ⟨Nat.zero_le _, [], 0, .nil, ?_⟩
    rw [← hD]; exact Heap.get?_push_size _ rfl
  have h3 : s3.heap = s2.heap.push { cls := .type "list", data := .seq ([] : List Value).toArray } := by rw [← hs3]
  have sz : ∀ b ∈ fp, b < s2.heap.objs.size := fun b hb => by obtain ⟨o, e, _⟩ := T.obj _ _ z2 b hb; exact Heap.lt_size e
  have f3 : ∀ b ∈ fp, FpOk X pins (upd H2 D (.lst [])) b ∧ b < s3.heap.objs.size := fun b hb => by
    refine ⟨⟨?_, (f2 b hb).2⟩, by rw [h3, Heap.size_push]; exact Nat.lt_succ_of_lt (sz b hb)⟩
    rw [upd_ne (by rw [← hD]; exact Nat.ne_of_lt (sz b hb))]; exact (f2 b hb).1
  have st3 : tn 0 s3.heap := T.keep _ _ _ z2 fun b _ o e => by rw [h3]; exact Heap.get?_push_of_some _ e
  have P3 := I3.pin p (List.mem_append_left _ hp)
  have I4' := block_start I3 ok hN f3
  have hotB : L2H.HotC (blkH X s3 (upd H2 D (.lst [])) scope (compEnvC scope (cellsFrom (s3.heap.objs.size + 1) scope.names (cloFrom X.env.cells scope.names [])) s3.heap.objs.size X.env) fp p) := ⟨p, hot1, List.mem_cons_self⟩
  have I4 := inv_blkH (p := p) I4' ⟨pushCells_keeps _ _ _ _ (Heap.get?_push_of_some _ P3.1), P3.2.1, Nat.ne_of_lt (Heap.lt_size P3.1), fun hm => (List.mem_cons.mp (I3.stkSub p.1 hm)).elim P3.2.2.1 P3.2.2.2.1, P3.2.2.2.2⟩
  have pg := hg s3 (upd H2 D (.lst [])) s3.heap.objs.size (cellsFrom (s3.heap.objs.size + 1) scope.names (cloFrom X.env.cells scope.names [])) fp p hotB
  have pt := ht s3 (upd H2 D (.lst [])) s3.heap.objs.size (cellsFrom (s3.heap.objs.size + 1) scope.names (cloFrom X.env.cells scope.names [])) fp p
  have pe := he s3 (upd H2 D (.lst [])) s3.heap.objs.size (cellsFrom (s3.heap.objs.size + 1) scope.names (cloFrom X.env.cells scope.names [])) fp p
  show codeAny _ _ (.compStart (.ListComp elt [⟨tg, iter, ifs, 0⟩] scope pos) 0 (.ref it) (.ref D) (compEnvC scope (cellsFrom (s3.heap.objs.size + 1) scope.names (cloFrom X.env.cells scope.names [])) s3.heap.objs.size X.env)) (compPost (model X.prog X.w) X.A X.xe use Qf (.ref D) s3.heap.objs.size) { s3 with heap := pushCells (s3.heap.push { cls := .type "dict", data := .dict #[] }) scope.names }
  have nfp : ∀ b ∈ fp, (upd H2 D (.lst [])) b = none := fun b hb => (f3 b hb).1.1
  generalize hce : compEnvC scope (cellsFrom (s3.heap.objs.size + 1) scope.names (cloFrom X.env.cells scope.names [])) s3.heap.objs.size X.env = ce at I4 pg pt pe hotB ⊢
  have cL : ce.locals = s3.heap.objs.size := by subst hce; rfl
  generalize hH3 : upd H2 D (.lst []) = H3 at I3 I4 pg pt pe w0 nfp f3 hotB
  generalize hs4 : ({ s3 with heap := pushCells (s3.heap.push { cls := .type "dict", data := .dict #[] }) scope.names } : Shared) = s4 at I4 ⊢
  have st4 : tn 0 s4.heap := T.keep _ _ _ st3 fun b _ o e => by rw [← hs4]; exact pushCells_keeps _ _ _ _ (Heap.get?_push_of_some _ e)
  have stat : ∀ {σ' : L2.St} {H' : Hp} {s' : Shared}, Inv (blkH X s3 H3 scope ce fp p) [] σ' H' s' → (∀ b ∈ fp, H' b = none) → ∀ b ∈ fp, FpOk (blkH X s3 H3 scope ce fp p) [] H' b := fun {σ' H' s'} I' hn b hb =>
    ⟨hn b hb, (I'.ok.exf b hb).1, I'.ok.exfs b hb, .inl hb, fun x c e => (I'.ok.exf b hb).2 x c e, fun r hr => by rw [show r = p by simpa using (show r ∈ [p] ++ ([] : List (Addr × Obj)) from hr)]; exact (f2 b hb).2.2.2.2.2 p (List.mem_append_left _ hp)⟩
  have loop : codeAny (model X.prog X.w) X.A (.compLoop (.ListComp elt [⟨tg, iter, ifs, 0⟩] scope pos) 0 (.ref it) (.ref D) ce) (compPost (model X.prog X.w) X.A X.xe use Qf (.ref D) s3.heap.objs.size) s4 := by
    refine compLoop_any (fun n s' => ∃ i H', Inv (blkH X s3 H3 scope ce fp p) [] (wipe σ (own.map (·.2))) H' s' ∧ tn i s'.heap ∧ (∀ b ∈ fp, H' b = none) ∧ W i n H') ?_ m0 ⟨0, H3, I4, st4, nfp, w0⟩
    rintro n s5 ⟨i, H5, I5, st5, n5, w5⟩
    rcases turn i n H5 w5 with ⟨stop, qq⟩ | ⟨go, Nx, hNx, step⟩
    · refine thnF (T.done (blkH X s3 H3 scope ce fp p) rfl rfl rfl hotB i [] s5 _ H5 (fun _ _ => False) I5 (stat I5 n5) st5 stop) fun r s6 ⟨hr, I6⟩ => ?_
      subst hr
      have I7 : Inv X pins σ H5 s6 := I3.call' (ch := fp) I6.os I6.base I6.hok I6.bare fun b hb => ⟨(f3 b hb).1.2.2.2.1, (f3 b hb).1.2.1, (f3 b hb).1.2.2.2.2.1, (f3 b hb).1.2.2.2.2.2⟩
      have nC : H5 s3.heap.objs.size = none := by have z : H5 ce.locals = none := I6.free; rw [cL] at z; exact z
      obtain ⟨m, hn, _⟩ := I6.loc
      have hn : s6.heap.Ns ce.locals m := hn
      rw [cL] at hn
      exact hRR D s3.heap.objs.size s6 m H5 I7 qq hn (I3.fpOk (Nat.le_refl _) nC)
    · refine thnF (T.item (blkH X s3 H3 scope ce fp p) rfl rfl rfl hotB i [] s5 _ H5 (fun _ _ => False) I5 (stat I5 n5) st5 go) fun r s6 ⟨u, hr, h6⟩ => ?_
      subst hr
      refine thnF h6 fun _ s7 ⟨x, H7, I7, r7, y7, st7, n7⟩ => ?_
      refine thnF (pg.run _ s7 _ H7 x u _ (I7.pinned (stat I7 n7) (T.obj _ _ st7)) r7 (step x H7 y7)) fun _ s8 ⟨σ8, H8, I8, hw8, q8⟩ => ?_
      refine thnF (pt.run _ s8 σ8 H8 _ I8 q8) fun b s9 ⟨H9, I9, q9⟩ => ?_
      have fin : ∀ {s' : Shared} {H' : Hp}, Inv (blkH X s3 H3 scope ce fp p) ([] ++ pinsAt fp s7.heap) σ8 H' s' → Nx H' → ∃ m, m < n ∧ ∃ i H', Inv (blkH X s3 H3 scope ce fp p) [] (wipe σ (own.map (·.2))) H' s' ∧ tn i s'.heap ∧ (∀ b ∈ fp, H' b = none) ∧ W i m H' := fun {s' H'} I' nx => by
        obtain ⟨m', hm, w'⟩ := hNx H' nx
        have pin' : ∀ b ∈ fp, ∀ o, s7.heap.get? b = some o → s'.heap.get? b = some o ∧ H' b = none := fun b hb o e => have z := I'.pin (b, o) (List.mem_append_right _ (List.mem_append_right _ (mem_pinsAt hb e))); ⟨z.1, z.2.1⟩
        refine ⟨m', hm, i + 1, H', (I'.unpinned (pins := [])).weak (by rw [← hw8, wipe_length]) (fun j v e => by rw [← hw8] at e; exact (wipe_some e).1), T.keep _ _ _ st7 fun b hb o e => (pin' b hb o e).1, fun b hb => ?_, w'⟩
        obtain ⟨o, e, _⟩ := T.obj _ _ st7 b hb
        exact (pin' b hb o e).2
      cases b with
      | false => simp only [Bool.false_eq_true, if_false] at q9 ⊢; exact fin I9 q9
      | true =>
        simp only [if_true] at q9 ⊢
        exact thnF (pe.run _ s9 σ8 H9 _ I9 q9) fun z s10 ⟨yv, H10, I10, r10, acc, hD10, hz10, nx⟩ => app_ok (X := blkH X s3 H3 scope ce fp p) I10 hD10 hz10 r10 fun s11 I11 => fin I11 nx
  exact codeAny_compStart_list loop (T.self X.A 0 _ _ _ st4 loop)
theorem pe_lcH {elt tg iter : Expr} {ifs : List Expr} {scope : Scope} {own : List (Str × Nat)} {pos : Pos} {wi : TI} {g : TG} {tt : L2.TT} {te : TE} (hc : L2H.HotC X) (hN : X.N.Nodup) (hi : L2H.PIH X tg iter wi) (ok : BlkOk X.N X.env.scope scope own)
    (hg : ∀ s H C cl fp p, L2H.HotC (blkH X s H scope (compEnvC scope cl C X.env) fp p) → PG (blkH X s H scope (compEnvC scope cl C X.env) fp p) tg g) (ht : ∀ s H C cl fp p, PTs (blkH X s H scope (compEnvC scope cl C X.env) fp p) ifs tt)
    (he : ∀ s H C cl fp p, PE (blkH X s H scope (compEnvC scope cl C X.env) fp p) elt te) (hs : ∀ x, foldedSetIterable iter X.env x = pure x := by intro _; rfl) : PE X (.ListComp elt [⟨tg, iter, ifs, 0⟩] scope pos) (tLc wi g tt te (own.map (·.2))) := by
  refine ⟨fun pins s σ H Q I h => ?_⟩
  rw [eval_ListComp]
  refine lc_hot hc hN I hi ok hg ht he hs h fun D C s' m H' I' q hn f => ⟨m, hn, fun h'' sb => ?_⟩
  obtain ⟨f0, f1, f2, f3, f4, f5⟩ := f
  exact ⟨.ref D, H', I'.turned (t' := s'.toks) (fun b o hb e => (sb.2 b hb).trans e) f0 f1 f3 f4 f5, rfl, q⟩
end
end GF

set_option maxHeartbeats 2000000
/-! Own exceptions: raised, caught, asked for their class. -/
namespace GF
open PySem PySem.Spec PyProof.Rows L2

/-! ### a comprehension over a list, while an exception is handled -/
def lstOf (s : S) (μ : Mu) : Out (List D) := match s with
  | .d (.lst l) => .ok l μ
  | _ => .stk
def iLst (f : FE) : FI := fun ρ μ => (f ρ μ).bind lstOf
section
variable {X : Cx} {W : WX} {e tg : Expr} {es : List Expr} {f : FE} {pos p : Pos}
theorem pih_lst (he : DE X W e f) : L2H.PIH X tg e (tI X.K X.mg W (iLst f)) := by
  refine ⟨fun pins s σ H R I ⟨m, ρ, μ, M, rr, h⟩ => (pi_listH he.pe).run pins s σ H R I ⟨m, ρ, μ, M, rr, ?_⟩⟩
  have h : wpI X.K X.mg m ((f ρ μ).bind lstOf) R _ := h
  cases e1 : f ρ μ with
  | stk => rw [e1] at h; exact h
  | exc x μ' => rw [e1] at h; exact h
  | ok s μ1 =>
    rw [e1] at h
    intro v H1 m1 x1 M1 r1
    have h : wpI X.K X.mg m (lstOf s μ1) R _ := h
    cases s with
    | c k => exact h.elim
    | d d =>
      cases d with
      | lst l =>
        cases (show Is X.K X.mg m1.fr (.lst l) v from r1) with
        | lst ha ia => exact ⟨_, _, rfl, SqL.of (M1.sub _ _ ha), h _ H1 m1 x1 M1 (walks_list ha ia)⟩
      | _ => exact h.elim
theorem dg_tupH {js : List Nat} {k n : Nat} {u : List D → Rho → Option Rho} (hc : L2H.HotC X) (h : DGs X js es u) (hn : (assignEach es X.env).length = n := by rfl) (hst : (assignEach es X.env).findIdx? (·.1) = none := by rfl) : DG X js (.Tuple es k pos) (gT n u) := by
  refine ⟨⟨fun pins s σ H v w Q I r ⟨m, μ, ρ, d, ρ', M, rr, rd, e, h'⟩ => ?_⟩⟩
  unfold gT at e
  split at e
  · rename_i l
    split at e
    · rename_i hl
      cases rd with
      | tup ha ia => exact (pg_tupH hc h.pe hn hst).run pins s σ H _ w Q I r ⟨_, _, rfl, Same.sqt M.sub ha, by rw [← ia.length]; exact hl, m, μ, ρ, l, ρ', M, rr, ia, e, h'⟩
    · cases e
  · cases e
theorem de_lcH {vs : List Nat} {elt tg iter : Expr} {ifs : List Expr} {scope : Scope} {own : List (Str × Nat)} {t : D → Rho → Option Rho} {ft : FB} {fe : FE} {js : List Nat} (hc : L2H.HotC X) (hN : X.N.Nodup) (hi : DE X W iter f) (ok : BlkOk X.N X.env.scope scope own)
    (hg : ∀ s H C cl fp p, L2H.HotC (blkH X s H scope (compEnvC scope cl C X.env) fp p) → DG (blkH X s H scope (compEnvC scope cl C X.env) fp p) js tg t) (ht : ∀ s H C cl fp p, DTs (blkH X s H scope (compEnvC scope cl C X.env) fp p) (fun _ _ _ _ => False) ifs ft)
    (he : ∀ s H C cl fp p, DE (blkH X s H scope (compEnvC scope cl C X.env) fp p) (fun _ _ _ _ => False) elt fe) (hv : own.map (·.2) = vs) (hj : ∀ j ∈ js, j ∈ vs) (hs : ∀ x, foldedSetIterable iter X.env x = pure x := by intro _; rfl) :
    DE X W (.ListComp elt [⟨tg, iter, ifs, 0⟩] scope pos) (eLc (iLst f) t ft fe vs) := by
  subst hv
  exact .in ⟨_, pe_lcH hc hN (pih_lst hi) ok (fun s H C cl fp p h => (hg s H C cl fp p h).pe) (fun s H C cl fp p => (ht s H C cl fp p).pe) (fun s H C cl fp p => (he s H C cl fp p).pe) hs, fun σ H m ρ μ Q M rr h => lc_sound hj M rr h⟩
end

/-! ### methods of texts with one argument -/
def strsD : List D → Option (List Str)
  | [] => some []
  | .str x :: l => (strsD l).map (x :: ·)
  | _ => none
def joinS (a : Str) (l : List D) : Option D := match strsD l with
  | some ys => if (ys.map (·.length)).sum + ys.length * a.length ≤ 16777216 then some (.str (Txt.join a ys)) else none
  | none => none
def joinD (a : Str) : D → Option D
  | .lst l => joinS a l
  | .tup l => joinS a l
  | _ => none
def splitD (a : Str) : D → Option D
  | .str b => if (b.length == 0) = false ∧ a.length ≤ cap then some (.lst ((Txt.split a b).map .str)) else none
  | _ => none
def opM (g : Str → D → Option D) (x : Str) (b : S) (μ : Mu) : Out S := match view b μ with
  | some y => (match g x y with
    | some z => .ok (.d z) μ
    | none => .stk)
  | none => .stk
def eMt (g : Str → D → Option D) (f1 f2 : FE) : FE := fun ρ μ => (f1 ρ μ).bind fun a μ1 => match a with
  | .d (.str x) => (f2 ρ μ1).bind fun b μ2 => opM g x b μ2
  | _ => .stk
theorem strs_is {K : PySem.W.Frag} {mg : Str → Option Value} {F : Hp} : ∀ {l : List D} {vs : List V} {ys : List Str}, IsA K mg F l vs → strsD l = some ys → vs = ys.map V.str
  | [], _, _, .nil, h => by cases h; rfl
  | .str x :: l, _, _, .cons a q, h => by
    cases a
    unfold strsD at h
    cases e : strsD l with
    | none => rw [e] at h; cases h
    | some zs => rw [e] at h; cases h; rw [strs_is q e]; rfl
  | .non :: _, _, _, .cons _ _, h => by cases h
  | .bl _ :: _, _, _, .cons _ _, h => by cases h
  | .int _ :: _, _, _, .cons _ _, h => by cases h
  | .tup _ :: _, _, _, .cons _ _, h => by cases h
  | .lst _ :: _, _, _, .cons _ _, h => by cases h
  | .scr _ :: _, _, _, .cons _ _, h => by cases h
  | .fn _ :: _, _, _, .cons _ _, h => by cases h
  | .ty _ :: _, _, _, .cons _ _, h => by cases h
  | .adr _ :: _, _, _, .cons _ _, h => by cases h
  | .dic _ _ :: _, _, _, .cons _ _, h => by cases h
theorem isA_strs {K : PySem.W.Frag} {mg : Str → Option Value} {F : Hp} : ∀ ys : List Str, IsA K mg F (ys.map .str) (ys.map V.str)
  | [] => .nil
  | y :: ys => .cons (.str y) (isA_strs ys)
def SndM (K : PySem.W.Frag) (mg : Str → Option Value) (r : V → List V → Hp → VK → Prop) (g : Str → D → Option D) : Prop :=
  ∀ F H x b y z Q, Same F H → Vw K mg F H b y → g x b = some z → Gives K mg F H z Q → r (.str x) [y] H Q
section
variable {X : Cx} {W : WX} {o e : Expr} {f1 f2 : FE} {pos apos : Pos} {K : PySem.W.Frag} {mg : Str → Option Value}
theorem m1_sound {r : V → List V → Hp → VK → Prop} {g : Str → D → Option D} (hs : SndM X.K X.mg r g) {to te : TE}
    (qa : ∀ σ H m ρ μ Q, Mem X.K X.mg m μ H → RhoIs X.K X.mg m ρ σ → wpE X.K X.mg m (f1 ρ μ) Q (fun c d H' => W c d σ H') → to σ H Q)
    (qb : ∀ σ H m ρ μ Q, Mem X.K X.mg m μ H → RhoIs X.K X.mg m ρ σ → wpE X.K X.mg m (f2 ρ μ) Q (fun c d H' => W c d σ H') → te σ H Q)
    {σ : L2.St} {H : Hp} {m : Mc} {ρ : Rho} {μ : Mu} {Q : V → Hp → Prop} (M : Mem X.K X.mg m μ H) (rr : RhoIs X.K X.mg m ρ σ) (h : wpE X.K X.mg m (eMt g f1 f2 ρ μ) Q (fun c d H' => W c d σ H')) : tM1 r to te σ H Q := by
  refine qa σ H m ρ μ _ M rr (wpE_bind h fun a v μ1 H1 m1 e1 M1 r1 h1 => ?_)
  cases a with
  | c k => exact h1.elim
  | d d =>
    cases d with
    | str x =>
      cases (show Is X.K X.mg m1.fr (.str x) v from r1)
      refine ⟨⟨x, rfl⟩, qb σ H1 m1 ρ μ1 _ M1 (rr.mono e1) (wpE_bind h1 fun b y μ2 H2 m2 e2 M2 r2 h2 => ?_)⟩
      unfold opM at h2
      split at h2
      · rename_i y' hy
        split at h2
        · rename_i z hz
          exact hs m2.fr H2 x y' y z Q M2.sub (view_ok M2 hy r2) hz (gives_of M2 h2)
        · exact h2.elim
      · exact h2.elim
    | _ => exact h1.elim
theorem snd_join : SndM K mg (fun x xs H Q => ∃ a p, ∃ ys : List Str, x = .str a ∧ xs = [.ref p] ∧ (SqL K H p (ys.map V.str) ∨ SqT K H p (ys.map V.str)) ∧ (ys.map (·.length)).sum + ys.length * a.length ≤ 16777216 ∧ Q (.str (Txt.join a ys)) H) joinD := by
  intro F H x b y z Q sm rb hg G
  have core : ∀ l, joinS x l = some z → ∃ ys, strsD l = some ys ∧ (ys.map (·.length)).sum + ys.length * x.length ≤ 16777216 ∧ z = .str (Txt.join x ys) := fun l hl => by
    unfold joinS at hl
    split at hl
    · rename_i ys hy
      split at hl
      · rename_i hc; cases hl; exact ⟨ys, hy, hc, rfl⟩
      · cases hl
    · cases hl
  unfold joinD at hg
  split at hg
  · rename_i l
    obtain ⟨ys, hy, hc, rfl⟩ := core _ hg
    obtain ⟨p, vs, rfl, tH, ia⟩ := rb.lst sm
    have := strs_is ia hy
    subst this
    exact ⟨x, p, ys, rfl, rfl, .inl (SqL.of tH), hc, G.1 _ (.str _)⟩
  · rename_i l
    obtain ⟨ys, hy, hc, rfl⟩ := core _ hg
    obtain ⟨p, vs, rfl, _, tH, ia⟩ := rb.tup sm
    have := strs_is ia hy
    subst this
    exact ⟨x, p, ys, rfl, rfl, .inr tH, hc, G.1 _ (.str _)⟩
  · cases hg
theorem de_join (ha : DE X W o f1) (hb : DE X W e f2) (hs : starEach [e] X.env = [(false, eval e X.env)] := by rfl) (hbase : attributeBase o "join" X.env (eval o X.env) = eval o X.env := by rfl) (hline : (apos.endLine == pos.line) = true := by rfl) :
    DE X W (.Call (.Attribute o "join" apos) [e] [] pos) (eMt joinD f1 f2) := by
  obtain ⟨ta, pa, qa⟩ := ha.ex
  obtain ⟨tb, pb, qb⟩ := hb.ex
  exact .in ⟨_, pe_join pa pb hs hbase hline, fun σ H m ρ μ Q M rr h => m1_sound snd_join qa qb M rr h⟩
end

/-! ### the classes of errors -/
/-- an own class over ValueError without __init__ -/
structure ExcB (K : PySem.W.Frag) (mg : Str → Option Value) (x : Str) : Prop where
  ex : ∃ C, mg x = some (.ref C) ∧ PySem.W.excIn K C [.type "ValueError", .type "Exception", .type "BaseException", .type "object"] "ValueError.__new__" = true ∧ PySem.W.keepIn K (.ref C) = true ∧ PySem.W.subIn K (.ref C) (.type "BaseException") = some true ∧ PySem.W.typeIn K (.ref C) = some (.type "type")
def sRaise (x : Str) : FS := fun ρ μ => .exc ⟨x, []⟩ ρ μ
section
variable {X : Cx} {W : WX} {x m : Str} {j : Nat} {p p2 pos pos' : Pos}
theorem ds_raise (hc : X.calm = true) (tk : L2N.Takes X W) (B : ExcB X.K X.mg x) (hg : Gl X x := by rfl) (hdb : (x == ("__debug__" : Str)) = false := by decide) : DS X W (.Raise (some (.Call (.Name x p) [.Constant (.str m) j p2] [] pos)) none pos') (sRaise x) := by
  obtain ⟨C, gC, q, kC, b, t⟩ := B.ex
  refine .in ⟨_, L2N.ps_raise hc tk (L2N.pmk_own PySem.F.excBase_ValueError q gC kC (raises_own b t) hg hdb), fun σ H m ρ μ D M rr h => ?_⟩
  exact h _ _ σ H m .refl M rr ⟨C, gC, rfl, .inl ⟨rfl, rfl⟩⟩
end
end GF

set_option maxHeartbeats 2000000
/-! A call that is given as a lambda, and the word of the error that it raises. -/
namespace GF
open PySem PySem.Spec PyProof.Rows L2

/-! ### a def called with the handled exception -/
/-- Z: what is known of the exception's object -/
structure FnZ (P : Program) (w : World) (K : PySem.W.Frag) (mg : Str → Option Value) (base : Heap) (Z : Obj → Prop) (k : Nat) (f : Addr) (fd : FuncData) (ps : List Str) (sp : Addr → Sp) : Prop where
  len : ∀ a vs H Q E, sp a vs H Q E → vs.length = ps.length
  run : ∀ (A : Around) (outer : List Env) (s : Shared) (H : Hp) (args : Args) (us : List Value) (vs : List V) (Q : VK) (E : XK) (p : Addr × Obj), L2H.RoomH k A → L2H.Hot1 A p → Z p.2 → L2H.PinOk outer H s p → Env0 P w K mg base A outer s H → BindsTo s fd args (ps.zip us) → Vals vs us → sp p.1 vs H Q E →
    codeAny (model P w) A (.call (.ref f) args) (CR (L2N.CX P w) outer P w H s Q E) s
section
variable {P : Program} {w : World} {K : PySem.W.Frag} {mg : Str → Option Value} {base : Heap}
theorem fnZ_of {x : Str} {st : Stmt} {f : Addr} {fd : FuncData} {N ps : List Str} {k : Nat} {Z : Obj → Prop} {body : Addr → FS} (F : Fun K x x st f fd) (S : FnScope N ps (defScope st))
    (h : ∀ (cdv : Value) (A : Around) (outer : List Env) (s : Shared) (H : Hp) (E : XK) (p : Addr × Obj), Z p.2 → L2H.Hot1 A p → DSs (L2H.cxH (L2N.CX P w) P w K mg base N x (defScope st) f cdv A outer s H E p) (fun c d _ H => E c d H) (defBody st) (body p.1)) :
    FnZ P w K mg base Z (k + 1) f fd ps (fun a => spD K mg ps.length (fnD N.length (body a))) := by
  obtain ⟨oc, od, kV, doc, pm, an, cdv, ct, osl, rfl, lk, hcd⟩ := F.ex
  refine ⟨fun a vs H Q E h => h.1, fun A outer s H args us vs Q E p hr hot hz hpin e0 hb r ⟨hl, m, μ, ss, M, rs, hw⟩ => ?_⟩
  have KX : K.In s.heap := e0.mod.kin.keeps fun b o e => (e0.bs b o e).1
  have nl : s.heap.NoLimit := e0.mod.nolimit.keeps fun b o e => (e0.bs b o e).1
  refine codeAny_call_function hr.depth (KX _ _ lk) rfl S.co S.gen rfl (PySem.W.codeRec_of KX hcd) (hb _ _ _ _ (wpAny_newFunctionEnv_cells S.kind (fun ⟨n, v⟩ hy => ?_) fun env he s1 ic => ?_))
  · rcases S.par n (List.of_mem_zip hy).1 with q | q
    · exact .inl q
    · exact .inr ⟨q, PySem.W.cellsFrom_some _ _ _ (.inl q)⟩
  subst he
  refine ⟨nl.keeps ic.toInCall.keep, codeAny_func ?_⟩
  obtain ⟨t, ht, hq⟩ := (h cdv A outer s H E p hz hot).ex
  have I := L2H.inv_startH (CX := L2N.CX P w) (E := E) S hpin e0 hl r ic
  have hN : vs.length ≤ N.length := by have := congrArg List.length S.pre; rw [List.length_take] at this; omega
  have fin : ∀ {σ' : L2.St} {H' : Hp} {v : V} {u : Value} {s' : Shared}, Inv (L2H.cxH (L2N.CX P w) P w K mg base N x (defScope st) f cdv A outer s H E p) [] σ' H' s' → RelV v u → Q v H' → CE outer P w H s Q u s' := fun {σ' H' v u s'} J rv q => ⟨v, H', J.os, J.bare, J.base, J.hok, rv, q⟩
  refine wpAny_mono (ht.run [] s1 (L2.start N vs) H { nx := fun _ H' => Q .non H', rt := Q } I (hq (L2.start N vs) H m (rho0 N.length ss) μ _ M (rs.rho hN) ?_)) (fun fl s' hs => ?_) fun e s' hs => hs
  · unfold fnD at hw
    cases e : body p.1 (rho0 N.length ss) μ with
    | stk => rw [e] at hw; exact hw
    | nx ρ μ' => rw [e] at hw; exact fun σ' H' m' x M' _ => hw .non H' _ (M.cut M' x).1 (M.cut M' x).2 .non
    | rt s μ' => rw [e] at hw; exact retS_wp M hw
    | bk ρ μ' => rw [e] at hw; exact hw.elim
    | ct ρ μ' => rw [e] at hw; exact hw.elim
    | exc x ρ μ' => rw [e] at hw; exact fun cls d σ' H' m' x M' _ q => hw cls d H' _ (M.cut M' x).1 (M.cut M' x).2 q
  · cases fl with
    | ret u => obtain ⟨v, σ', H', J, rv, q⟩ := hs; exact fin J rv q
    | next => obtain ⟨σ', H', J, q⟩ := hs; exact fin (v := V.non) (u := Value.none) J rfl q
    | brk => obtain ⟨_, _, _, q⟩ := hs; exact q.elim
    | cont => obtain ⟨_, _, _, q⟩ := hs; exact q.elim
end
section
variable {X : Cx} {k : Nat} {f : Addr} {fd : FuncData} {ps : List Str} {sp : Addr → Sp} {Z : Obj → Prop} {x : Str} {q pos : Pos} {e : Expr} {es : List Expr} {t : TA} {p : Addr × Obj}
theorem pe_callZ (F : FnZ X.prog X.w X.K X.mg X.base Z k f fd ps sp) (hr : L2H.RoomH k X.A) (hot : L2H.Hot1 X.A p) (hz : Z p.2) (hp : p ∈ X.pn) (hg : Gl X x) (hm : X.mg x = some (.ref f)) (hk : PySem.W.keepIn X.K (.ref f) = true) (hb : Binds X.K fd ps [])
    (ha : PA X (e :: es) t) (hdb : (x == ("__debug__" : Str)) = false := by decide) (he : starEach (e :: es) X.env = (false, eval e X.env) :: starEach es X.env := by rfl) (hpl : (backTo pos (starEach es X.env)).any (·.1) = false := by rfl) :
    PE X (.Call (.Name x q) (e :: es) [] pos) (fun σ H Q => t σ H fun vs H1 => sp p.1 vs H1 Q fun _ _ _ => False) := by
  refine ⟨fun pins s σ H Q I h => wpAny_Call_Name_kw (ld_glob I hg hm (PySem.W.callWith_K (h₀ := X.base) I.ok.mod.kin hk (thn (ha.run pos pins s σ H _ I h) fun us s1 ⟨vs, H1, I1, r, q⟩ => ⟨I1.kIn, ?_⟩) he hpl) hdb)⟩
  have hl : us.length = ps.length := by rw [← r.length]; exact F.len _ _ _ _ _ q
  have b := hb s1 us I1.kIn (by rw [List.append_nil]; exact hl)
  rw [List.append_nil] at b
  have P1 := I1.pin p (List.mem_append_left _ hp)
  have hpin : L2H.PinOk X.stack H1 s1 p := ⟨P1.1, P1.2.1, fun hm => (List.mem_cons.mp (I1.stkSub p.1 hm)).elim P1.2.2.1 P1.2.2.2.1, P1.2.2.2.2⟩
  refine wpAny_call (codeAny_mono (F.run X.A X.stack s1 H1 ⟨us, []⟩ us vs Q _ p hr hot hz hpin I1.env0 b r q) fun r s' hq => ?_)
  cases r with
  | error e => obtain ⟨_, _, _, _, _, _, _, _, _, _, _, _, z⟩ := hq; exact z.elim
  | ok fl =>
    cases fl with
    | ret u => exact I1.after hq
    | next => exact hq.elim
    | brk => exact hq.elim
    | cont => exact hq.elim
end

/-! ### isinstance of the handled exception -/
def eIsP (i : Nat) (a : Addr) (b : Bool) : FE := fun ρ μ => match ρ[i]? with
  | some (some (.d (.adr a'))) => if a' = a then .ok (.d (.bl b)) μ else .stk
  | _ => .stk
section
variable {X : Cx} {W : WX}
theorem call_isP {D : Addr} {p : Addr × Obj} (C : ExcC X.K D) (hp : p ∈ X.pn) (hz : Zc (.ref D) none p.2) (hf : ∃ vs, p.2.data = .fields vs) : CallR X (.builtin "isinstance") (rIsE X.K D p.1) := by
  intro pins s σ H xs us Q I r ⟨c, cv, b, e0, hcv, e, q⟩
  subst e0
  cases r with
  | cons rx rr =>
    cases rr with
    | cons rt rr =>
      cases rr; cases rx
      have ec := hcv _ rt
      subst ec
      obtain ⟨hget, _⟩ := I.pin p (List.mem_append_left _ hp)
      obtain ⟨vs, hv⟩ := hf
      have J : PySem.W.InstAt s.heap p.1 p.2 D none := by
        obtain ⟨pa, ⟨oc, od, oda, osl⟩⟩ := p
        obtain ⟨h1, h2⟩ := hz
        dsimp only at h1 h2 hv hget ⊢
        subst h1 h2 hv
        exact ⟨hget, rfl, rfl, trivial⟩
      exact PySem.W.kia_one (PySem.W.handS_kitx_exc C.hg C.hk C.hs C.hd C.ha C.hn C.ht C.hm) I.kIn J e (fun z => nomatch z) fun tk => ⟨.bl b, H, I.kept (t' := tk) fun _ _ z => z, rfl, q⟩
theorem de_isP {p : Addr × Obj} {x cx : Str} {i : Nat} {D C : Addr} {b : Bool} {p1 p2 p3 pos : Pos} (hp : p ∈ X.pn) (hz : Zc (.ref D) none p.2) (hf : ∃ vs, p.2.data = .fields vs) (hD : ExcC X.K D) (hm : X.mg cx = some (.ref C)) (hk : PySem.W.kitOne X.K (.ref D) (.ref C) = some b) (hi : X.mg "isinstance" = none)
    (hN : X.N[i]? = some x := by rfl) (hv : Vis X.env.scope x := by first | exact Or.inl rfl | exact Or.inr (Or.inl rfl) | exact Or.inr (Or.inr rfl)) (hg : Gl X cx := by rfl) (hgi : Gl X "isinstance" := by rfl) (hd : (x == ("__debug__" : Str)) = false := by decide) (hcd : (x == ("__classdict__" : Str)) = false := by decide) (hcx : (cx == ("__debug__" : Str)) = false := by decide)
    (he : starEach [.Name x p2, .Name cx p3] X.env = (false, eval (.Name x p2) X.env) :: starEach [.Name cx p3] X.env := by rfl) (he2 : starEach [.Name cx p3] X.env = [(false, eval (.Name cx p3) X.env)] := by rfl) (hpl : (backTo pos (starEach [.Name cx p3] X.env)).any (·.1) = false := by rfl) :
    DE X W (.Call (.Name "isinstance" p1) [.Name x p2, .Name cx p3] [] pos) (eIsP i p.1 b) := by
  refine .in ⟨_, pe_callB (call_isP hD hp hz hf) hgi hi PyProof.Rows.boot_isinstance (pa_cons (pe_var hN hv hd hcd) (pa_cons (pe_glob (v := .ref C) hg hm rfl hcx) pa_nil he2) he) (by decide) (by decide) he hpl, fun σ H m ρ μ Q M rr h => ?_⟩
  unfold eIsP at h
  split at h
  · rename_i a' hs
    split at h
    · rename_i ea
      subst ea
      obtain ⟨v, h1, h2⟩ := rr.has i _ hs
      cases (show Is X.K X.mg m.fr (.adr p.1) v from h2)
      exact ⟨_, h1, .ref C, .ref C, b, rfl, fun u r => r, hk, h (.bl b) H m .refl M (.bl b)⟩
    · exact h.elim
  · exact h.elim
end
end GF

set_option maxHeartbeats 2000000
/-! _law_refused(lambda: ..): the word of the error, or nothing. -/
namespace GF
open PySem PySem.Spec PyProof.Rows L2

/-- the words by the classes' names -/
abbrev Kinds := List (Str × Str)
def eRef (ks : Kinds) (f : FE) : FE := fun ρ μ => match f ρ μ with
  | .stk => .stk
  | .ok _ μ' => .ok (.d (.str "")) μ'
  | .exc x μ' => match x.fs, ks.lookup x.cls with
    | [], some wd => .ok (.d (.str wd)) μ'
    | _, _ => .stk
/-- the def _law_error: of each kind of error its word -/
structure ErrAt (P : Program) (w : World) (K : PySem.W.Frag) (mg : Str → Option Value) (base : Heap) (k : Nat) (ks : Kinds) (CF : Addr) : Prop where
  ex : ∃ f fd, mg "_law_error" = some (.ref f) ∧ PySem.W.keepIn K (.ref f) = true ∧ Binds K fd ["_law_e"] [] ∧ ∀ x wd, ks.lookup x = some wd → ∃ C, mg x = some (.ref C) ∧ PySem.W.exmOne K (.ref C) (.ref CF) = some true ∧
    ∃ g : Addr → List S → Mu → Out S, FnZ P w K mg base (fun o => Zc (.ref C) none o ∧ ∃ vs, o.data = .fields vs) k f fd ["_law_e"] (fun a => spD K mg 1 (g a)) ∧ ∀ a μ, g a [.d (.adr a)] μ = .ok (.d (.str wd)) μ
/-- the text of _law_refused -/
def refBody (p1 p2 p3 p4 p5 p6 p7 p8 p9 p10 p11 p12 : Pos) (j : Nat) : List Stmt :=
  [.Try [.Expr (.Call (.Name "_law_call" p1) [] [] p2) p3] [.ExceptHandler (some (.Name "FlipError" p4)) (some "_law_e") [.Return (some (.Call (.Name "_law_error" p5) [.Name "_law_e" p6] [] p7)) p8] p9] [] [] p10, .Return (some (.Constant (.str "") j p11)) p12]
structure RefAt (P : Program) (w : World) (K : PySem.W.Frag) (mg : Str → Option Value) (base : Heap) (k : Nat) (ks : Kinds) : Prop where
  ex : ∃ g fd st CF p1 p2 p3 p4 p5 p6 p7 p8 p9 p10 p11 p12 j, Fun K "_law_refused" "_law_refused" st g fd ∧ mg "_law_refused" = some (.ref g) ∧ Binds K fd ["_law_call"] [] ∧ FnScope ["_law_call", "_law_e"] ["_law_call"] (defScope st) ∧ defBody st = refBody p1 p2 p3 p4 p5 p6 p7 p8 p9 p10 p11 p12 j ∧
    (defScope st).names.lookup ("FlipError" : Str) = some .globalImplicit ∧ (defScope st).names.lookup ("_law_error" : Str) = some .globalImplicit ∧ (defScope st).names.lookup ("_law_e" : Str) = some .local ∧ (defScope st).names.lookup ("_law_call" : Str) = some .local ∧ mg "FlipError" = some (.ref CF) ∧ ErrAt P w K mg base k ks CF
/-- lambdas may be made here -/
structure LamOk (X : Cx) : Prop where
  ex : ∃ c P, X.env.code = .ref c ∧ LamX.TabB X.base X.mg c P ∧ (P, X.env.qual ++ "<lambda>") ∈ tabsK X.K ∧ ∀ q ∈ tabsK X.K, q.1 = P → q.2 = X.env.qual ++ "<lambda>"
abbrev lamCxN (X : Cx) (A : Around) (outer : List Env) (s : Shared) (H : Hp) (E : XK) (scope : Scope) (f c' : Addr) : Cx :=
  { LamX.lamCx X A outer s H E scope f c' with xe := fun e s' => wpAny (model X.prog X.w) (A.deeper (LamX.lamEnv X scope s.heap.objs.size f c')) (leaving (LamX.lamEnv X scope s.heap.objs.size f c') e) (fun _ s'' => L2N.CX X.prog X.w outer H s E e s'') (fun e' s'' => L2N.CX X.prog X.w outer H s E e' s'') s' }
section
variable {X : Cx} {pins : List (Addr × Obj)} {σ : L2.St} {H HZ : Hp} {s s1 : Shared}
/-- the call of what was handed over -/
theorem pe_actN {Eg : XK} {Ng : List Str} {qg : Str} {sg : Scope} {g f c' : Addr} {cdg pm ctv : Value} {params : Arguments} {body : Expr} {scope : Scope} {k i : Nat} {a : Str} {pn : List (Addr × Obj)} {xe : Value → Shared → Prop} {W : WX} {E : XK} {tb : TE} {p1 p2 : Pos}
    (I : Inv X pins σ H s) (L : LamX.LamS X.env.scope scope) (hf : s.heap.get? f = some (PySem.W.kla_obj "<lambda>" (X.env.qual ++ "<lambda>") params body scope (cloFrom X.env.cells scope.names []) pm c' ctv)) (hfn : H f = none) (hfr : f ∉ frs X.stack)
    (hbind : bindArgs (PySem.W.kla_fn "<lambda>" (X.env.qual ++ "<lambda>") params body scope (cloFrom X.env.cells scope.names []) pm (.ref c') ctv) ⟨[], []⟩ = pure [])
    (tk : L2N.Takes ((cxOf (L2N.CX X.prog X.w) X.prog X.w X.K X.mg X.base Ng qg sg g cdg X.A X.stack s H Eg).tr pn xe) W) {σ0 : L2.St} (hW : ∀ cls d H', E cls d H' → W cls d σ0 H') (hr : Room (k + 1) (X.A.deeper (envOfC qg sg s.heap.objs.size g cdg)))
    (hbody : ∀ (A : Around) (outer : List Env) (s : Shared) (H : Hp), Room k (A.deeper (LamX.lamEnv X scope s.heap.objs.size f c')) → PE (lamCxN X A outer s H E scope f c') body tb)
    (hN : Ng[i]? = some a) (hv : Vis sg a) (hd : (a == ("__debug__" : Str)) = false := by decide) (hcd : (a == ("__classdict__" : Str)) = false := by decide) :
    PE ((cxOf (L2N.CX X.prog X.w) X.prog X.w X.K X.mg X.base Ng qg sg g cdg X.A X.stack s H Eg).tr pn xe) (.Call (.Name a p1) [] [] p2) (fun σZ HZ Q => σZ = σ0 ∧ σZ[i]? = some (some (.ref f)) ∧ HZ c' = some (LamX.CodeO c' (X.env.qual ++ "<lambda>")) ∧ tb σ HZ Q) := by
  refine ⟨fun pinsZ sZ σZ HZ Q IZ ⟨es, hs, hc, ht⟩ => ?_⟩
  subst es
  refine wpAny_Call_Name_kw (thn ((pe_var (pos := p1) (i := i) hN hv hd hcd).run pinsZ sZ σZ HZ (fun v H1 => v = .ref f ∧ H1 = HZ) IZ ⟨.ref f, hs, rfl, rfl⟩) fun u s1 ⟨v, H1, I1, r1, ev, eH⟩ => ?_)
  subst ev eH
  obtain rfl : u = Value.ref f := r1
  have of1 : s1.heap.get? f = some (PySem.W.kla_obj "<lambda>" (X.env.qual ++ "<lambda>") params body scope (cloFrom X.env.cells scope.names []) pm c' ctv) := I1.base.keep f _ hf hfn hfr (fun z => nomatch (show f ∈ ([] : List Addr) from z))
  refine PySem.W.callWith_F0 ⟨_, _, _, _, of1⟩ ?_
  obtain ⟨⟨oc, vs, t, hoc, hdc, hvc⟩, _, _⟩ := I1.hok c' _ hc
  refine wpAny_call (codeAny_mono (R := CR (L2N.CX X.prog X.w) (envOfC qg sg s.heap.objs.size g cdg :: X.stack) X.prog X.w H1 s1 Q E) ?_ fun r s' hq => ?_)
  · refine PySem.W.kla_callFunE hr.depth of1 rfl L.co L.gen rfl ⟨c', oc, vs, t, rfl, hoc, hdc, hvc⟩ ?_
    erw [hbind]
    refine wpAny_pure (wpAny_newFunctionEnv (fun y hy => (L.own y hy).2) (fun y hy => absurd hy (by simp)) (fun h₁ hns hsb => ⟨I1.nolimit.fresh _ hsb, ?_⟩) L.kind)
    show codeAny _ _ (.expr body (LamX.lamEnv X scope s1.heap.objs.size f c')) _ _
    have kp : ∀ b o, s1.heap.get? b = some o → h₁.get? b = some o := fun b o e => hsb.extBut b o (Nat.ne_of_lt (Heap.lt_size e)) (Heap.get?_push_of_some _ e)
    have J := (LamX.lam_start2 (tk := s1.toks + ([] : List (Str × Value)).length) (E := E) (f := f) (c' := c') I L I1.env0 hr.hd I1.base hns kp).wish (fun e s' => wpAny (model X.prog X.w) ((X.A.deeper (envOfC qg sg s.heap.objs.size g cdg)).deeper (LamX.lamEnv X scope s1.heap.objs.size f c')) (leaving (LamX.lamEnv X scope s1.heap.objs.size f c') e) (fun _ s'' => L2N.CX X.prog X.w (envOfC qg sg s.heap.objs.size g cdg :: X.stack) H1 s1 E e s'') (fun e' s'' => L2N.CX X.prog X.w (envOfC qg sg s.heap.objs.size g cdg :: X.stack) H1 s1 E e' s'') s')
    refine PySem.W.kla_codeExpr (wpAny_mono ((hbody (X.A.deeper (envOfC qg sg s.heap.objs.size g cdg)) (envOfC qg sg s.heap.objs.size g cdg :: X.stack) s1 H1 (hr.deeper _)).run [] _ _ H1 Q J ht) (fun v s' hq => ?_) fun e s' hq => hq)
    obtain ⟨w', H', J', rv, q⟩ := hq
    exact ⟨w', H', J'.os, J'.bare, J'.base, J'.hok, rv, q⟩
  · cases r with
    | error e => exact tk e s' (L2N.XE.of_call I1 (fun cls d H' h => hW cls d H' h) hq)
    | ok fl =>
      cases fl with
      | ret u => exact I1.after hq
      | next => exact hq.elim
      | brk => exact hq.elim
      | cont => exact hq.elim
end
/-- what is wished where an error of a kind is raised -/
def ExW (K : PySem.W.Frag) (mg : Str → Option Value) (ks : Kinds) (Q : VK) : XK := fun cls d H2 => ∃ x wd C, ks.lookup x = some wd ∧ mg x = some (.ref C) ∧ cls = .ref C ∧ d = none ∧ ∃ m μ, Mem K mg m μ H2 ∧ ∀ H' m', Ext m m' → Mem K mg m' μ H' → Q (.str wd) H'
theorem takes0N {X : Cx} : L2N.Takes X (fun _ _ _ _ => False) := fun _ _ x => by
  obtain ⟨_, _, _, _, _, _, _, _, _, _, _, _, _, _, _, _, z⟩ := x
  exact z.elim
section
variable {X : Cx} {W : WX}
theorem pe_refused {k : Nat} {ks : Kinds} {params : Arguments} {body : Expr} {scope : Scope} {lpos p pos : Pos} {t : XK → TE} (R : RefAt X.prog X.w X.K X.mg X.base k ks) (hr : Room (k + 2) X.A) (LO : LamOk X) (L : LamX.LamS X.env.scope scope) (hdef : defaultsOf params X.env = ([], []))
    (hbind : ∀ (q : Str) (cl : List (Str × Addr)) (pm cv ctv : Value), bindArgs (PySem.W.kla_fn "<lambda>" q params body scope cl pm cv ctv) ⟨[], []⟩ = pure [])
    (hbody : ∀ (A : Around) (outer : List Env) (s : Shared) (H : Hp) (E : XK) (f c' : Addr), Room k (A.deeper (LamX.lamEnv X scope s.heap.objs.size f c')) → PE (lamCxN X A outer s H E scope f c') body (t E)) (hg : Gl X "_law_refused") :
    PE X (.Call (.Name "_law_refused" p) [.Lambda params body scope lpos] [] pos) (fun σ H Q => LamX.Tabs (tabsK X.K) H ∧ ∀ H1, LamX.ExtN H H1 → LamX.Tabs (tabsK X.K) H1 → t (ExW X.K X.mg ks Q) σ H1 (fun _ H2 => Q (.str "") H2)) := by
  obtain ⟨g, fd, st, CF, p1, p2, p3, p4, p5, p6, p7, p8, p9, p10, p11, p12, j, F, hm, hb, Sg, eB, gF, gE, gL, gA, mF, EA⟩ := R.ex
  obtain ⟨fe, fde, me, ke, be, errs⟩ := EA.ex
  obtain ⟨c, P, hcode, TB, hmT, hu⟩ := LO.ex
  obtain ⟨oc, od, kV, doc, pm, an, cdv, ct, osl, rfl, lk, hcg⟩ := F.ex
  refine ⟨fun pins s σ H Q I ⟨hT, h⟩ => ?_⟩
  refine wpAny_Call_Name_kw (ld_glob I hg hm ?_ (by decide))
  refine PySem.W.callWith_K (h₀ := X.base) I.ok.mod.kin F.kp ?_ (by rfl) (by rfl)
  show wpAny _ _ (spliced ((false, eval (.Lambda params body scope lpos) X.env) :: backTo pos (starEach [] X.env))) _ _ s
  refine Calls.spliced_cons (LamX.lam_make2 I TB hcode hmT hu hT hdef (L.has I.ok) fun f c' pm' ctv H1 s' I1 eN T1 hf hfn hfr hco => Calls.spliced_nil ⟨I1.kIn, ?_⟩)
  have h1 := h H1 eN T1
  refine wpAny_call (codeAny_mono (R := CR (L2N.CX X.prog X.w) X.stack X.prog X.w H1 s' Q fun _ _ _ => False) ?_ fun r s2 hq => ?_)
  · refine LamX.run_ofS (N := ["_law_call", "_law_e"]) (ps := ["_law_call"]) (us := [.ref f]) (vs := [.ref f]) lk hcg Sg hr I1.env0 (hb s' [.ref f] I1.kIn rfl) (.cons rfl .nil) rfl fun hr' => ?_
    rw [eB]
    let Z := cxOf (L2N.CX X.prog X.w) X.prog X.w X.K X.mg X.base ["_law_call", "_law_e"] "_law_refused" (defScope st) g cdv X.A X.stack s' H1 (fun _ _ _ => False)
    refine ⟨_, pss_cons (L2N.ps_try_as (X := Z) (c := .ref CF) (i := 1) (Wout := fun _ _ _ _ => False)
      (tb := fun W D σZ HZ => ∃ Ech : XK, (∀ cls d H', Ech cls d H' → W cls d σZ H') ∧ σZ = L2.start ["_law_call", "_law_e"] [.ref f] ∧ HZ c' = some (LamX.CodeO c' (X.env.qual ++ "<lambda>")) ∧ t Ech σ HZ fun _ H2 => D.nx σZ H2)
      (ts := fun a cls d D σZ HZ => σZ[1]? = some (some (.ref a)) ∧ ExW X.K X.mg ks D.rt cls d HZ)
      rfl rfl Sg.nd rfl gL ⟨gF, by decide, .inl mF⟩ takes0N (fun W pn xe tk _ => ?_) (fun a oe cls d pn hz hdat => ?_)) (pss_one (ps_ret pe_str)), ?_⟩
    · refine ⟨fun pinsZ sZ σZ HZ D IZ ⟨Ech, hW, e1, e2, e3⟩ => ?_⟩
      have act := pe_actN (i := 0) (a := "_law_call") (p1 := p1) (p2 := p2) (E := Ech) (tb := t Ech) (k := k) (σ0 := σZ) I1 L hf hfn hfr (hbind _ _ _ _ _) tk hW hr' (fun A outer s H hr2 => hbody A outer s H Ech f c' hr2) rfl (.inl gA)
      exact (pss_one (ps_expr (pos := p3) act)).run pinsZ sZ σZ HZ D IZ ⟨rfl, by rw [e1]; rfl, e2, e3⟩
    · refine ⟨fun pinsZ sZ σZ HZ D IZ ⟨e1, x, wd, C, hx, mx, ec, ed, m, μ, M, q⟩ => ?_⟩
      subst ec ed
      obtain ⟨C', mC, _, gz, FZ, hgz⟩ := errs x wd hx
      rw [mx] at mC
      cases mC
      obtain ⟨vs, hv⟩ := hdat
      have call := pe_callZ (X := Z.suite a ((a, oe) :: pn)) (p := (a, oe)) (q := p5) (pos := p7) (x := "_law_error") FZ ⟨(hr'.mono (Nat.le_succ k)).dp, (hr'.mono (Nat.le_succ k)).un⟩ ⟨rfl, vs, hv, hz.2.2 vs hv⟩ ⟨⟨hz.1, hz.2.1⟩, vs, hv⟩ List.mem_cons_self gE me ke be (pa_cons (pe_var (i := 1) (x := "_law_e") (pos := p6) rfl (.inl gL)) pa_nil)
      refine (pss_one (ps_ret (pos := p8) call)).run pinsZ sZ σZ HZ D IZ ⟨_, e1, rfl, m, μ, [.d (.adr a)], M, .cons (.adr a) .nil, ?_⟩
      rw [hgz]
      intro v H' m' ext M' r
      cases (show Is X.K X.mg m'.fr (.str wd) v from r)
      exact q H' m' ext M'
    · refine ⟨ExW X.K X.mg ks Q, fun cls d H' ⟨x, wd, C, hx, mx, ec, ed, rest⟩ => ?_, rfl, hco, h1⟩
      obtain ⟨C', mC, hex, _⟩ := errs x wd hx
      rw [mx] at mC
      cases mC
      subst ec ed
      exact ⟨true, hex, fun _ a ha => ⟨rfl, x, wd, C, hx, mx, rfl, rfl, rest⟩, fun z => nomatch z⟩
  · cases r with
    | error e => obtain ⟨_, _, _, _, _, _, _, _, _, _, _, _, z⟩ := hq; exact z.elim
    | ok fl =>
      cases fl with
      | ret u => exact I1.after hq
      | next => exact hq.elim
      | brk => exact hq.elim
      | cont => exact hq.elim
end

section
variable {X : Cx} {W : WX}
theorem de_refused {k : Nat} {ks : Kinds} {params : Arguments} {body : Expr} {scope : Scope} {lpos p pos : Pos} {fe : FE} (R : RefAt X.prog X.w X.K X.mg X.base k ks) (hr : Room (k + 2) X.A) (LO : LamOk X) (L : LamX.LamS X.env.scope scope)
    (hbody : ∀ (A : Around) (outer : List Env) (s : Shared) (H : Hp) (E : XK) (f c' : Addr), Room k (A.deeper (LamX.lamEnv X scope s.heap.objs.size f c')) → DE (lamCxN X A outer s H E scope f c') (fun c d _ H => E c d H) body fe)
    (hdef : defaultsOf params X.env = ([], []) := by rfl) (hbind : ∀ (q : Str) (cl : List (Str × Addr)) (pm cv ctv : Value), bindArgs (PySem.W.kla_fn "<lambda>" q params body scope cl pm cv ctv) ⟨[], []⟩ = pure [] := by intro _ _ _ _ _; rfl) (hg : Gl X "_law_refused" := by rfl) :
    DE X W (.Call (.Name "_law_refused" p) [.Lambda params body scope lpos] [] pos) (eRef ks fe) := by
  refine .in ⟨_, pe_refused (t := fun E => tE X.K X.mg (fun c d _ H => E c d H) fe) R hr LO L hdef hbind (fun A outer s H E f c' h => (hbody A outer s H E f c' h).pe) hg, fun σ H m ρ μ Q M rr h => ⟨M.tab, fun H1 eN T1 => ⟨m, ρ, μ, M.grown eN T1, rr, ?_⟩⟩⟩
  unfold eRef at h
  cases e : fe ρ μ with
  | stk => rw [e] at h; exact h
  | ok s μ' =>
    rw [e] at h
    exact fun v H' m' x M' _ => h (.str "") H' m' x M' (.str "")
  | exc x μ' =>
    rw [e] at h
    dsimp only at h
    split at h
    · rename_i wd hf hk
      intro cls d H' m' ex M' q
      obtain ⟨C, mC, ec, q⟩ := q
      rcases q with ⟨_, ed⟩ | ⟨ne, _⟩
      · exact ⟨x.cls, wd, C, hk, mC, ec, ed, m', μ', M', fun H2 m2 x2 M2 => h (.str wd) H2 m2 (ex.trans x2) M2 (.str wd)⟩
      · exact absurd hf ne
    · exact h.elim
end

/-! ### a def that a name holds is called -/
/-- the defs by their names -/
abbrev FTab := Str → Option (Nat × (List S → Mu → Out S))
def eCallV (i : Nat) (tb : FTab) (fa : FA) : FE := fun ρ μ => match ρ[i]? with
  | some (some (.d (.fn x))) => (match tb x with
    | some (n, g) => (fa ρ μ).bind fun ss μ1 => if ss.length = n then g ss μ1 else .stk
    | none => .stk)
  | _ => .stk
section
variable {X : Cx} {W : WX} {x : Str} {p pos : Pos} {e : Expr} {es : List Expr} {fa : FA}
theorem de_callV (i : Nat) {tb : FTab} {j k : Nat} (T : ∀ x n g, tb x = some (n, g) → FnAt X.prog X.w X.K X.mg X.base j x n g) (hr : Room k X.A) (hjk : j ≤ k) (tk : L2N.Takes X W) (ha : DA X W (e :: es) fa) (hN : X.N[i]? = some x := by rfl) (hv : Vis X.env.scope x := by first | exact Or.inl rfl | exact Or.inr (Or.inl rfl) | exact Or.inr (Or.inr rfl))
    (hdb : (x == ("__debug__" : Str)) = false := by decide) (hcd : (x == ("__classdict__" : Str)) = false := by decide) (he : starEach (e :: es) X.env = (false, eval e X.env) :: starEach es X.env := by rfl) (hpl : (backTo pos (starEach es X.env)).any (·.1) = false := by rfl) :
    DE X W (.Call (.Name x p) (e :: es) [] pos) (eCallV i tb fa) := by
  obtain ⟨ta, pa, qa⟩ := ha.ex
  refine .in ⟨fun σ H Q => ∃ f fd ps sp, FnOk X.prog X.w X.K X.mg X.base (L2N.CX X.prog X.w) k f fd ps sp ∧ PySem.W.keepIn X.K (.ref f) = true ∧ Binds X.K fd ps [] ∧ σ[i]? = some (some (.ref f)) ∧ ta σ H fun vs H1 => sp vs H1 Q fun c d H' => W c d σ H', ⟨fun pins s σ H Q I h => ?_⟩, fun σ H m ρ μ Q M rr h => ?_⟩
  · obtain ⟨f, fd, ps, sp, F, hk, hb, hs, ht⟩ := h
    refine wpAny_Call_Name_kw (thn ((pe_var (pos := p) hN hv hdb hcd).run pins s σ H (fun v H1 => v = .ref f ∧ H1 = H) I ⟨.ref f, hs, rfl, rfl⟩) fun u s1 ⟨v, H1, I1, r1, e1, e2⟩ => ?_)
    subst e1 e2
    cases r1
    refine PySem.W.callWith_K (h₀ := X.base) I.ok.mod.kin hk (thn (pa.run pos pins s1 σ _ _ I1 ht) fun us s2 ⟨vs, H2, I2, r, q⟩ => ⟨I2.kIn, ?_⟩) he hpl
    refine run_fnSD (dvs := []) (ds := []) (E := fun σ c d H => W c d σ H) F hr hb .nil (L2N.passAt tk σ) I2 r ?_
    rw [List.append_nil]
    exact q
  · unfold eCallV at h
    split at h
    · rename_i y hy
      split at h
      · rename_i n g hg
        obtain ⟨f, fd, ps, F, hm, hk, hb⟩ := (T y n g hg).ex
        obtain ⟨v, h1, h2⟩ := rr.has i _ hy
        cases (show Is X.K X.mg m.fr (.fn y) v from h2) with
        | fn hm2 =>
          rw [hm] at hm2
          cases hm2
          refine ⟨f, fd, ps, _, F.mono hjk, hk, hb, h1, qa σ H m ρ μ _ M rr (wpA_bind h fun s v μ H' m' e M' r' h' => ?_)⟩
          split at h'
          · rename_i hl
            exact ⟨by rw [← r'.length]; exact hl, m', μ, s, M', r', h'⟩
          · exact h'.elim
      · exact h.elim
    · exact h.elim
end
end GF

set_option maxHeartbeats 2000000
/-! What the top has left of classes, lambdas and tables; the end of a law. -/
namespace GF
open PySem PySem.Spec PyProof.Rows L2

section
variable {X : Cx} {W : WX} {x : Str} {pos : Pos} {j n : Nat} {g : List S → Mu → Out S}
/-- a def of the module as a value -/
theorem de_fnAt (F : FnAt X.prog X.w X.K X.mg X.base j x n g) (hg : Gl X x := by rfl) (hd : (x == ("__debug__" : Str)) = false := by decide) : DE X W (.Name x pos) (eC (.fn x)) := by
  obtain ⟨f, fd, ps, _, m, _⟩ := F.ex
  exact de_fn m hg hd
end
theorem FnZ.mono {P : Program} {w : World} {K : PySem.W.Frag} {mg : Str → Option Value} {base : Heap} {Z : Obj → Prop} {j k : Nat} {f : Addr} {fd : FuncData} {ps : List Str} {sp : Addr → Sp} (F : FnZ P w K mg base Z j f fd ps sp) (h : j ≤ k) : FnZ P w K mg base Z k f fd ps sp :=
  ⟨F.len, fun A outer s H args us vs Q E p r => F.run A outer s H args us vs Q E p (r.mono h)⟩

/-! ### the classes of errors -/
def excCB (K : PySem.W.Frag) (D : Addr) : Bool :=
  decide (PySem.W.findIn K (.ref D) "__getattribute__" = some (some (.builtin "BaseException.__getattribute__"))) && decide (PySem.W.findIn K (.ref D) "__getattr__" = some none) && decide (PySem.W.subIn K (.ref D) (.type "BaseException") = some true) &&
  PySem.W.hasDictIn K D && decide (PySem.W.findIn K (.ref D) "__class__" = some (some (.builtin "object.__class__"))) && decide (PySem.W.specialIn K (.builtin "object.__class__") "__get__" = some (some (.builtin "getset_descriptor.__get__"))) &&
  decide (PySem.W.takesIn K (.builtin "object.__class__") = some true) && decide (PySem.W.mroIn K D (.type "object") = some true)
theorem excCB_ok {K : PySem.W.Frag} {D : Addr} (h : excCB K D = true) : ExcC K D := by
  unfold excCB at h
  simp only [Bool.and_eq_true, decide_eq_true_eq] at h
  obtain ⟨⟨⟨⟨⟨⟨⟨h1, h2⟩, h3⟩, h4⟩, h5⟩, h6⟩, h7⟩, h8⟩ := h
  exact ⟨h1, h2, h3, h4, h5, h6, h7, h8⟩
/-- each class is one alone: the first n of Cs are asked whether they are of Cs -/
def errsB (K : PySem.W.Frag) (CF : Addr) (n : Nat) (Cs : List Addr) : Bool := (List.range n).all fun i =>
  excCB K (Cs.getD i 0) && decide (PySem.W.exmOne K (.ref (Cs.getD i 0)) (.ref CF) = some true) && (List.range Cs.length).all fun j => decide (PySem.W.kitOne K (.ref (Cs.getD i 0)) (.ref (Cs.getD j 0)) = some (i == j))
structure ErrsOk (K : PySem.W.Frag) (CF : Addr) (n : Nat) (Cs : List Addr) : Prop where
  ec : ∀ i, i < n → ExcC K (Cs.getD i 0)
  up : ∀ i, i < n → PySem.W.exmOne K (.ref (Cs.getD i 0)) (.ref CF) = some true
  one : ∀ i j, i < n → j < Cs.length → PySem.W.kitOne K (.ref (Cs.getD i 0)) (.ref (Cs.getD j 0)) = some (i == j)
theorem errsB_ok {K : PySem.W.Frag} {CF : Addr} {n : Nat} {Cs : List Addr} (h : errsB K CF n Cs = true) : ErrsOk K CF n Cs := by
  have q : ∀ i, i < n → _ := fun i hi => List.all_eq_true.mp (show (List.range n).all _ = true from h) i (List.mem_range.mpr hi)
  simp only [Bool.and_eq_true, decide_eq_true_eq, List.all_eq_true, List.mem_range] at q
  exact ⟨fun i hi => excCB_ok (q i hi).1.1, fun i hi => (q i hi).1.2, fun i j hi hj => (q i hi).2 j hj⟩
/-- the words of the errors that are no more than their class -/
def kinds9 : Kinds := [("InvalidFlip", "flip"), ("InvalidScript", "script"), ("InvalidHeight", "height"), ("InvalidPlace", "place"), ("InvalidNumber", "number"), ("InvalidIndex", "index"), ("InvalidStack", "stack"), ("Unlike", "unlike"), ("NothingToUndo", "undo")]
theorem kinds_mem {x wd : Str} (h : kinds9.lookup x = some wd) : (x, wd) ∈ kinds9 := PySem.mem_of_lookup h

/-! ### where lambdas are made -/
def tabsB (rs : List DefRec) (K : PySem.W.Frag) : Bool := lamNames.all fun x => match PySem.W.tabIn K x with
  | none => true
  | some p => (rs.find? fun e => e.name == x).isSome && (K.lookup p.2).isNone && lamNames.all fun y => match PySem.W.tabIn K y with
    | none => true
    | some q => p.2 != q.2 || decide (x = y)
structure TabsOk (K : PySem.W.Frag) (base : Heap) (mg : Str → Option Value) : Prop where
  tb : ∀ p ∈ csOf K, LamX.TabB base mg p.1 p.2
  un : ∀ x ∈ lamNames, ∀ y ∈ lamNames, ∀ c c' P, PySem.W.tabIn K x = some (c, P) → PySem.W.tabIn K y = some (c', P) → x = y
structure AtL (K : PySem.W.Frag) (mg : Str → Option Value) (x : Str) (st : Stmt) (ps : List Str) : Prop where
  ex : ∃ f fd c P, Fun K x x st f fd ∧ mg x = some (.ref f) ∧ Binds K fd ps [] ∧ PySem.W.tabIn K x = some (c, P) ∧ fd.code = .ref c
theorem atL_code {K : PySem.W.Frag} {x : Str} {f c P : Addr} {oc : Value} {od : Option Addr} {osl : Array (Option Value)} {fd : FuncData} (a : PySem.W.nsIn K mainGlobals x = some (some (.ref f))) (l : K.lookup f = some ⟨oc, od, .func fd, osl⟩) (t : PySem.W.tabIn K x = some (c, P)) : fd.code = .ref c := by
  unfold PySem.W.tabIn at t
  rw [a] at t
  dsimp only at t
  rw [l] at t
  dsimp only at t
  split at t
  · rename_i c' hc
    split at t
    · split at t
      · cases t; exact hc
      · cases t
    · cases t
  · cases t
theorem atL_mk {K : PySem.W.Frag} {mg : Str → Option Value} {h : Heap} {x : Str} {st : Stmt} {ps : List Str} {f : Addr} {oc : Value} {od an : Option Addr} {osl : Array (Option Value)} {kV doc pm cdv ct : Value} (X : K.In h) (G : h.Ns mainGlobals mg)
    (a : PySem.W.nsIn K mainGlobals x = some (some (.ref f))) (l : K.lookup f = some ⟨oc, od, .func (PySem.W.fnOf x x (defArgs st) (defBody st) (defScope st) .none kV doc pm an cdv ct), osl⟩)
    (c : PySem.W.codeIn K cdv x = true) (k : PySem.W.keepIn K (.ref f) = true) (t : (PySem.W.tabIn K x).isSome = true)
    (b : ∀ (kV doc pm : Value) (an : Option Addr) (cdv ct : Value) (us : List Value), us.length = ps.length → bindArgs (PySem.W.fnOf x x (defArgs st) (defBody st) (defScope st) .none kV doc pm an cdv ct) ⟨us, []⟩ = pure (ps.zip us)) : AtL K mg x st ps := by
  obtain ⟨⟨c', P⟩, e⟩ := Option.isSome_iff_exists.mp t
  exact ⟨f, _, c', P, fun_mk (st := st) l c k, PySem.W.mg_of X G a, (fun_mk (st := st) l c k).binds b, e, atL_code a l e⟩
section
variable {P : Program} {w : World} {K : PySem.W.Frag} {mg : Str → Option Value} {base : Heap} {st : Stmt} {N ps : List Str} {k : Nat} {x : Str}
theorem okL {f c T : Addr} {fd : FuncData} {sp : Sp} (F : Fun K x x st f fd) (hc : fd.code = .ref c) (S : FnScope N ps (defScope st)) (hl : ∀ vs H Q E, sp vs H Q E → vs.length = ps.length)
    (hb : ∀ (cdv : Value) (A : Around) (outer : List Env) (s : Shared) (H : Hp) (vs : List V) (Q : VK) (E : XK), cdv = .ref c → Room k (A.deeper (envOfC x (defScope st) s.heap.objs.size f cdv)) → sp vs H Q E →
      ∃ t, PSs (cxOf (L2N.CX P w) P w K mg base N x (defScope st) f cdv A outer s H E) (defBody st) t ∧ t { nx := fun _ H' => Q .non H', rt := Q } (L2.start N vs) H) : FnOk P w K mg base (L2N.CX P w) (k + 1) f fd ps sp := by
  obtain ⟨oc, od, kV, doc, pm, an, cdv, ct, osl, rfl, lk, hcd⟩ := F.ex
  exact fn_of lk hcd S hl fun A outer s H vs Q E hr q => hb cdv A outer s H vs Q E hc hr q
theorem fn_okL {f c T : Addr} {fd : FuncData} {body : FS} (F : Fun K x x st f fd) (S : FnScope N ps (defScope st)) (hT : TabsOk K base mg) (hx : x ∈ lamNames) (ht : PySem.W.tabIn K x = some (c, T)) (hc : fd.code = .ref c)
    (h : ∀ (cdv : Value) (A : Around) (outer : List Env) (s : Shared) (H : Hp) (E : XK), LamOk (cxOf (L2N.CX P w) P w K mg base N x (defScope st) f cdv A outer s H E) → Room k (A.deeper (envOfC x (defScope st) s.heap.objs.size f cdv)) →
      DSs (cxOf (L2N.CX P w) P w K mg base N x (defScope st) f cdv A outer s H E) (fun c d _ H => E c d H) (defBody st) body) : FnOk P w K mg base (L2N.CX P w) (k + 1) f fd ps (spD K mg ps.length (fnD N.length body)) := by
  refine okL (T := T) F hc S (fun vs H Q E h => h.1) fun cdv A outer s H vs Q E ec hr hsp => ?_
  obtain ⟨hl, m, μ, ss, M, rs, hw⟩ := hsp
  have LO : LamOk (cxOf (L2N.CX P w) P w K mg base N x (defScope st) f cdv A outer s H E) := by
    refine ⟨c, T, ec, hT.tb _ (List.mem_filterMap.mpr ⟨x, hx, ht⟩), List.mem_filterMap.mpr ⟨x, hx, by show Option.map (fun q => (q.snd, lamQ x)) (PySem.W.tabIn K x) = _; rw [ht]; rfl⟩, fun q hq e => ?_⟩
    obtain ⟨y, hy, c', e1, e2, _⟩ := tabsK_mem hq
    rw [e] at e1
    rw [e2, ← hT.un x hx y hy _ _ _ ht e1]; rfl
  obtain ⟨t, pt, qt⟩ := (h cdv A outer s H E LO hr).ex
  have hN : vs.length ≤ N.length := by
    have := congrArg List.length S.pre
    rw [List.length_take] at this
    omega
  refine ⟨t, pt, qt (L2.start N vs) H m (rho0 N.length ss) μ _ M (rs.rho hN) ?_⟩
  unfold fnD at hw
  cases e : body (rho0 N.length ss) μ with
  | stk => rw [e] at hw; exact hw
  | nx ρ μ' => rw [e] at hw; exact fun σ' H' m' x M' _ => hw .non H' _ (M.cut M' x).1 (M.cut M' x).2 .non
  | rt s μ' => rw [e] at hw; exact retS_wp M hw
  | bk ρ μ' => rw [e] at hw; exact hw.elim
  | ct ρ μ' => rw [e] at hw; exact hw.elim
  | exc x ρ μ' => rw [e] at hw; exact fun cls d σ' H' m' x M' _ q => hw cls d H' _ (M.cut M' x).1 (M.cut M' x).2 q
theorem AtL.go' {k1 n nn : Nat} {body : FS} {g : List S → Mu → Out S} (T : AtL K mg x st ps) (S : FnScope N ps (defScope st)) (hT : TabsOk K base mg) (hx : x ∈ lamNames) (hk : k1 = k + 1) (hn : n = ps.length) (hN : N.length = nn) (hg : g = fnD nn body)
    (h : ∀ (f : Addr) (cdv : Value) (A : Around) (outer : List Env) (s : Shared) (H : Hp) (E : XK), LamOk (cxOf (L2N.CX P w) P w K mg base N x (defScope st) f cdv A outer s H E) → Room k (A.deeper (envOfC x (defScope st) s.heap.objs.size f cdv)) →
      DSs (cxOf (L2N.CX P w) P w K mg base N x (defScope st) f cdv A outer s H E) (fun c d _ H => E c d H) (defBody st) body) : FnAt P w K mg base k1 x n g := by
  subst hk hn hN hg
  obtain ⟨f, fd, c, T', F, a, b, t, e⟩ := T.ex
  exact ⟨f, fd, ps, fn_okL (T := T') F S hT hx t e (h f), a, F.kp, b⟩
end

/-! ### the end -/
theorem walk_end {l : PySem.W.OpenLaw} {n k : Nat} {q : Program} {loose : List Str} {XP : (Str → Option Value) → Heap → Prop} {YP : World → Heap → Prop} {d : DefRec} {K : Params → PySem.W.Frag} {x : Str} (hn : l.most = some n) (hn2 : n ≤ sizeLine) (h63 : n ≤ 63) (hdf : d.params.defaults = []) (hr : Room k callerA)
    (hY : ∀ (w : World) (h : Heap), YP w h → (K w.params).In h) (hT : ∀ w : World, tabsB (recsOf q) (K w.params) = true)
    (F : ∀ (w : World) (mg : Str → Option Value) (fa : Addr) (h : Heap), (K w.params).In h → h.Ns mainGlobals mg → mg d.name = some (.ref fa) → ∃ fd : FuncData, (∀ (s : Shared) (u : Value), BindsTo s fd ⟨[u], []⟩ [(x, u)]) ∧
      ∀ base : Heap, (K w.params).In base → base.Ns mainGlobals mg → TabsOk (K w.params) base mg → FnOk l.prog w (K w.params) mg base (L2N.CX l.prog w) k fa fd [x] (spLaw (K w.params) (csOf (K w.params)))) :
    PySem.W.WalkO q loose XP YP l.row.toRowW d [] (fun f vs => PySem.call f vs) := by
  refine Att.attach_callB hn hdf fun w s₀ s₁ mg mb fa o pm cd doc a vs ns G Y ho hd hcd hmg hobj hints hlen hbits hg => ?_
  have KX := hY w _ Y
  obtain ⟨fd, hb, hF⟩ := F w mg fa _ KX G.T.g hmg
  have one : ∀ x ∈ lamNames, ∀ c P, PySem.W.tabIn (K w.params) x = some (c, P) → (∃ d', (recsOf q).find? (fun e => e.name == x) = some d') ∧ (K w.params).lookup P = none ∧ ∀ y ∈ lamNames, ∀ c', PySem.W.tabIn (K w.params) y = some (c', P) → x = y := fun x hx c P e => by
    have z := List.all_eq_true.mp (show lamNames.all _ = true from hT w) x hx
    rw [e] at z
    simp only [Bool.and_eq_true, List.all_eq_true] at z
    refine ⟨Option.isSome_iff_exists.mp z.1.1, Option.isNone_iff_eq_none.mp z.1.2, fun y hy c' e' => ?_⟩
    have z2 := z.2 y hy
    rw [e'] at z2
    simpa using z2
  have tabs : ∀ p ∈ csOf (K w.params), PySem.W.CodeHd s₁.heap p.1 p.2 ∧ s₁.heap.get? p.2 = some { cls := .none, data := .fields #[] } ∧ (K w.params).lookup p.2 = none := fun p hp => by
    obtain ⟨x, hx, e⟩ := List.mem_filterMap.mp hp
    obtain ⟨⟨d', hd'⟩, nl, _⟩ := one x hx p.1 p.2 e
    have t := PySem.W.tab_of G.T KX hd' e
    exact ⟨t.1, t.2, nl⟩
  exact LamX.law_callTs (cs := csOf (K w.params)) KX G.T.g G.T.b G.T.builtins G.T.nolimit hg (fun p hp => (tabs p hp).2.1) (fun p hp => (tabs p hp).2.2) (fun p hp => (tabs p hp).1) G.T.bmain hobj hints (Nat.le_trans hlen hn2) hr
    (fun base h1 h2 h3 => hF base h1 h2 ⟨h3, fun x hx y hy c c' P e e' => (one x hx c P e).2.2 y hy c' e'⟩) hb (fun H hH hS => ⟨a, ns, rfl, hS, Nat.le_trans hlen h63, hH, fun _ => rfl⟩) fun H e s' h => by obtain ⟨_, _, _, _, _, _, _, _, _, _, _, _, z⟩ := h; exact z
end GF

set_option maxHeartbeats 2000000
/-! list(range(..)), tuple(range(..)); the words of errors. -/
namespace GF
open PySem PySem.Spec PyProof.Rows L2

/-! ### ranges as lists and tuples -/
def rgOkB (a b : Int) : Bool := decide (-(2 ^ 62) ≤ a) && decide (a < 2 ^ 62) && decide (-(2 ^ 62) ≤ b) && decide (b < 2 ^ 62) && decide ((b - a).toNat ≤ cap)
def rgS (mk : List D → D) (a b : Int) (μ : Mu) : Out S := if rgOkB a b = true then .ok (.d (mk (upD a (b - a).toNat))) μ else .stk
def eRg1 (mk : List D → D) (f : FE) : FE := fun ρ μ => (f ρ μ).bind fun s μ1 => match s with
  | .d (.int j) => rgS mk 0 j μ1
  | _ => .stk
def eRg2 (mk : List D → D) (f1 f2 : FE) : FE := fun ρ μ => (f1 ρ μ).bind fun s μ1 => match s with
  | .d (.int i) => (f2 ρ μ1).bind fun s2 μ2 => (match s2 with
    | .d (.int j) => rgS mk i j μ2
    | _ => .stk)
  | _ => .stk
theorem rgOk_of {a b : Int} (h : rgOkB a b = true) : RgOk a b := by
  unfold rgOkB cap at h
  simp only [Bool.and_eq_true, decide_eq_true_eq] at h
  obtain ⟨⟨⟨⟨h1, h2⟩, h3⟩, h4⟩, h5⟩ := h
  exact ⟨h1, h2, h3, h4, by omega⟩
theorem isA_up {K : PySem.W.Frag} {mg : Str → Option Value} {F : Hp} : ∀ (n : Nat) (lo : Int), IsA K mg F (upD lo n) ((List.range n).map fun i => V.int (lo + (i : Nat)))
  | 0, _ => .nil
  | n + 1, lo => by
    rw [List.range_succ_eq_map, List.map_cons, List.map_map]
    refine .cons (by simpa using Is.int (K := K) (mg := mg) (F := F) lo) ?_
    have e : ((fun i : Nat => V.int (lo + (i : Int))) ∘ Nat.succ) = fun i : Nat => V.int (lo + 1 + (i : Int)) := by
      funext i
      show V.int (lo + ((i + 1 : Nat) : Int)) = _
      congr 1
      omega
    rw [e]
    exact isA_up n (lo + 1)
section
variable {X : Cx} {W : WX} {e e2 : Expr} {f f2 : FE} {p p' pos pos' : Pos}
theorem rg_done {m : Mc} {μ : Mu} {H : Hp} {a b : Int} {mk : List D → D} {o : List V → HO} {Q : V → Hp → Prop} {E : XK} (M : Mem X.K X.mg m μ H) (ho : ∀ vs ps, o vs ≠ .tbl ps) (hi : ∀ (F : Hp) q l vs, F q = some (o vs) → IsA X.K X.mg F l vs → Is X.K X.mg F (mk l) (.ref q))
    (h : wpE X.K X.mg m (rgS mk a b μ) Q E) : RgOk a b ∧ ∀ q, H q = none → Q (.ref q) (upd H q (o (rgV a b))) := by
  unfold rgS at h
  split at h
  · rename_i hc
    refine ⟨rgOk_of hc, fun q hq => h (.ref q) _ (m.add q (o (rgV a b))) (ext_add (M.free hq) _) (M.new hq _ (ho _)) ?_⟩
    exact hi _ q _ _ upd_same (isA_up _ _)
  · exact h.elim
theorem rg1_sound {mk : List D → D} {o : List V → HO} (ho : ∀ vs ps, o vs ≠ .tbl ps) (hi : ∀ (F : Hp) q l vs, F q = some (o vs) → IsA X.K X.mg F l vs → Is X.K X.mg F (mk l) (.ref q)) {ta : TE}
    (qa : ∀ σ H m ρ μ Q, Mem X.K X.mg m μ H → RhoIs X.K X.mg m ρ σ → wpE X.K X.mg m (f ρ μ) Q (fun c d H' => W c d σ H') → ta σ H Q)
    {σ : L2.St} {H : Hp} {m : Mc} {ρ : Rho} {μ : Mu} {Q : V → Hp → Prop} (M : Mem X.K X.mg m μ H) (rr : RhoIs X.K X.mg m ρ σ) (h : wpE X.K X.mg m (eRg1 mk f ρ μ) Q (fun c d H' => W c d σ H')) : tRg1 ta σ H fun a b H1 => RgOk a b ∧ ∀ q, H1 q = none → Q (.ref q) (upd H1 q (o (rgV a b))) := by
  refine qa σ H m ρ μ _ M rr (wpE_bind h fun s v μ1 H1 m1 e1 M1 r1 h1 => ?_)
  cases s with
  | c k => exact h1.elim
  | d d =>
    cases d with
    | int j =>
      cases (show Is X.K X.mg m1.fr (.int j) v from r1)
      exact ⟨j, rfl, rg_done M1 ho hi h1⟩
    | _ => exact h1.elim
theorem rg2_sound {mk : List D → D} {o : List V → HO} (ho : ∀ vs ps, o vs ≠ .tbl ps) (hi : ∀ (F : Hp) q l vs, F q = some (o vs) → IsA X.K X.mg F l vs → Is X.K X.mg F (mk l) (.ref q)) {ta tb : TE}
    (qa : ∀ σ H m ρ μ Q, Mem X.K X.mg m μ H → RhoIs X.K X.mg m ρ σ → wpE X.K X.mg m (f ρ μ) Q (fun c d H' => W c d σ H') → ta σ H Q)
    (qb : ∀ σ H m ρ μ Q, Mem X.K X.mg m μ H → RhoIs X.K X.mg m ρ σ → wpE X.K X.mg m (f2 ρ μ) Q (fun c d H' => W c d σ H') → tb σ H Q)
    {σ : L2.St} {H : Hp} {m : Mc} {ρ : Rho} {μ : Mu} {Q : V → Hp → Prop} (M : Mem X.K X.mg m μ H) (rr : RhoIs X.K X.mg m ρ σ) (h : wpE X.K X.mg m (eRg2 mk f f2 ρ μ) Q (fun c d H' => W c d σ H')) : tRg2 ta tb σ H fun a b H1 => RgOk a b ∧ ∀ q, H1 q = none → Q (.ref q) (upd H1 q (o (rgV a b))) := by
  refine qa σ H m ρ μ _ M rr (wpE_bind h fun s v μ1 H1 m1 e1 M1 r1 h1 => ?_)
  cases s with
  | c k => exact h1.elim
  | d d =>
    cases d with
    | int i =>
      cases (show Is X.K X.mg m1.fr (.int i) v from r1)
      refine qb σ H1 m1 ρ μ1 _ M1 (rr.mono e1) (wpE_bind h1 fun s2 v2 μ2 H2 m2 e2 M2 r2 h2 => ?_)
      cases s2 with
      | c k => exact h2.elim
      | d d =>
        cases d with
        | int j =>
          cases (show Is X.K X.mg m2.fr (.int j) v2 from r2)
          exact ⟨i, j, rfl, rfl, rg_done M2 ho hi h2⟩
        | _ => exact h2.elim
    | _ => exact h1.elim
theorem de_listRg1 (hc : X.calm = true) (hl : X.mg "list" = none) (hm : X.mg "range" = none) (ha : DE X W e f) (hg : Gl X "list" := by rfl) (hg2 : Gl X "range" := by rfl) (na : starEach [e] X.env = (false, eval e X.env) :: starEach [] X.env := by rfl)
    (nr : starEach [.Call (.Name "range" p') [e] [] pos'] X.env = (false, eval (.Call (.Name "range" p') [e] [] pos') X.env) :: starEach [] X.env := by rfl) : DE X W (.Call (.Name "list" p) [.Call (.Name "range" p') [e] [] pos'] [] pos) (eRg1 .lst f) := by
  obtain ⟨ta, pa, qa⟩ := ha.ex
  exact .in ⟨_, pe_listRg hc hg hl (prg_1 hg2 hm pa na) nr, fun σ H m ρ μ Q M rr h => rg1_sound (o := HO.lst) (fun _ _ z => by cases z) (fun F q l vs h1 h2 => .lst h1 h2) qa M rr h⟩
theorem de_listRg2 (hc : X.calm = true) (hl : X.mg "list" = none) (hm : X.mg "range" = none) (ha : DE X W e f) (hb : DE X W e2 f2) (hg : Gl X "list" := by rfl) (hg2 : Gl X "range" := by rfl) (na : starEach [e, e2] X.env = (false, eval e X.env) :: starEach [e2] X.env := by rfl) (nb : starEach [e2] X.env = (false, eval e2 X.env) :: starEach [] X.env := by rfl)
    (hp : (backTo pos' (starEach [e2] X.env)).any (·.1) = false := by rfl) (nr : starEach [.Call (.Name "range" p') [e, e2] [] pos'] X.env = (false, eval (.Call (.Name "range" p') [e, e2] [] pos') X.env) :: starEach [] X.env := by rfl) : DE X W (.Call (.Name "list" p) [.Call (.Name "range" p') [e, e2] [] pos'] [] pos) (eRg2 .lst f f2) := by
  obtain ⟨ta, pa, qa⟩ := ha.ex
  obtain ⟨tb, pb, qb⟩ := hb.ex
  exact .in ⟨_, pe_listRg hc hg hl (prg_2 hg2 hm pa pb na nb hp) nr, fun σ H m ρ μ Q M rr h => rg2_sound (o := HO.lst) (fun _ _ z => by cases z) (fun F q l vs h1 h2 => .lst h1 h2) qa qb M rr h⟩
theorem de_tupRg1 (hc : X.calm = true) (hl : X.mg "tuple" = none) (hm : X.mg "range" = none) (ha : DE X W e f) (hg : Gl X "tuple" := by rfl) (hg2 : Gl X "range" := by rfl) (na : starEach [e] X.env = (false, eval e X.env) :: starEach [] X.env := by rfl)
    (nr : starEach [.Call (.Name "range" p') [e] [] pos'] X.env = (false, eval (.Call (.Name "range" p') [e] [] pos') X.env) :: starEach [] X.env := by rfl) : DE X W (.Call (.Name "tuple" p) [.Call (.Name "range" p') [e] [] pos'] [] pos) (eRg1 .tup f) := by
  obtain ⟨ta, pa, qa⟩ := ha.ex
  exact .in ⟨_, pe_tupRg hc hg hl (prg_1 hg2 hm pa na) nr, fun σ H m ρ μ Q M rr h => rg1_sound (o := HO.tup) (fun _ _ z => by cases z) (fun F q l vs h1 h2 => .tup (SqT.of h1) h2) qa M rr h⟩
theorem de_tupRg2 (hc : X.calm = true) (hl : X.mg "tuple" = none) (hm : X.mg "range" = none) (ha : DE X W e f) (hb : DE X W e2 f2) (hg : Gl X "tuple" := by rfl) (hg2 : Gl X "range" := by rfl) (na : starEach [e, e2] X.env = (false, eval e X.env) :: starEach [e2] X.env := by rfl) (nb : starEach [e2] X.env = (false, eval e2 X.env) :: starEach [] X.env := by rfl)
    (hp : (backTo pos' (starEach [e2] X.env)).any (·.1) = false := by rfl) (nr : starEach [.Call (.Name "range" p') [e, e2] [] pos'] X.env = (false, eval (.Call (.Name "range" p') [e, e2] [] pos') X.env) :: starEach [] X.env := by rfl) : DE X W (.Call (.Name "tuple" p) [.Call (.Name "range" p') [e, e2] [] pos'] [] pos) (eRg2 .tup f f2) := by
  obtain ⟨ta, pa, qa⟩ := ha.ex
  obtain ⟨tb, pb, qb⟩ := hb.ex
  exact .in ⟨_, pe_tupRg hc hg hl (prg_2 hg2 hm pa pb na nb hp) nr, fun σ H m ρ μ Q M rr h => rg2_sound (o := HO.tup) (fun _ _ z => by cases z) (fun F q l vs h1 h2 => .tup (SqT.of h1) h2) qa qb M rr h⟩
end

/-! ### the words of errors -/
def G_error (ad : Addr) (b0 b1 b2 b3 b4 b5 b6 b7 b8 b9 b10 : Bool) : FS :=
      (sSeq (sSet 1 (eLst (aCons (eTup (aCons (eC (.str "flip")) (aCons (eIsP 0 ad b0) aNil))) (aCons (eTup (aCons (eC (.str "script")) (aCons (eIsP 0 ad b1) aNil))) aNil))))
      (sSeq (sSet 1 (eOp addD (eV 1) (eLst (aCons (eTup (aCons (eC (.str "height")) (aCons (eIsP 0 ad b2) aNil))) (aCons (eTup (aCons (eC (.str "place")) (aCons (eIsP 0 ad b3) aNil))) aNil)))))
      (sSeq (sSet 1 (eOp addD (eV 1) (eLst (aCons (eTup (aCons (eC (.str "number")) (aCons (eIsP 0 ad b4) aNil))) (aCons (eTup (aCons (eC (.str "index")) (aCons (eIsP 0 ad b5) aNil))) aNil)))))
      (sSeq (sSet 1 (eOp addD (eV 1) (eLst (aCons (eTup (aCons (eC (.str "stack")) (aCons (eIsP 0 ad b6) aNil))) (aCons (eTup (aCons (eC (.str "unlike")) (aCons (eIsP 0 ad b7) aNil))) aNil)))))
      (sSeq (sSet 1 (eOp addD (eV 1) (eLst (aCons (eTup (aCons (eC (.str "undo")) (aCons (eIsP 0 ad b8) aNil))) (aCons (eTup (aCons (eC (.str "many")) (aCons (eIsP 0 ad b9) aNil))) aNil)))))
      (sSeq (sSet 1 (eOp addD (eV 1) (eLst (aCons (eTup (aCons (eC (.str "text")) (aCons (eIsP 0 ad b10) aNil))) aNil))))
      (sRet (eMt joinD (eC (.str " ")) (eLc (iLst (eV 1)) (gT 2 (gsC (gN 2) (gsC (gN 3) gsN))) (bT (eV 3)) (eV 2) [2, 3])))))))))

theorem eIsP_at {a : Addr} {b : Bool} {r : Rho} {μ : Mu} : eIsP 0 a b (some (.d (.adr a)) :: r) μ = .ok (.d (.bl b)) μ := by
  show (if a = a then _ else _) = _
  rw [if_pos rfl]
theorem join_one (sep w : Str) : Txt.join sep [w] = w := rfl
theorem err_w0 (a : Addr) (μ : Mu) : fnD 4 (G_error a true false false false false false false false false false false) [.d (.adr a)] μ = .ok (.d (.str "flip")) μ := by
  have er : rho0 4 [S.d (.adr a)] = [some (.d (.adr a)), none, none, none] := rfl
  unfold fnD G_error
  rw [er]
  have cp : ∀ n : Nat, n ≤ 100 → n ≤ cap := fun n h => by unfold cap; omega
  have wl : (Str.ofString "flip").length + (Str.ofString " ").length ≤ 16777216 := by decide
  simp [sSeq, sIf, sNil, sSet, sRet, sRetN, sExpr, sPar, sAsg, sSub, sApp, putCell, bT, bNot, bAnd, bOr, eOp, eV, eC, eIf, eAnd, eOr, eNot, eUn, eBi, eCall, eCall0, eTup, eLst, eCell, eListC, eSl, eChain, eLc, aCons, aNil, oNone, oSome, asI, asB, op1, op2, op3, opA, opLC, viewA, view, allD, mkTup, mkLst, mkCell, mkL, Out.bind, toS, toSB, toSA, toSI, iSeq, seqOf, iRange1, iRange2, rng1, rng2, cmpD, addD, subD, modD, lenD, GF.intD, listD, tupleD, isiD, isiB, ixD, eqD, neD, inLD, notInLD, isND, notND, isNon, negD, revD, slD, max2D, min2D, absD, retS, wipeR, eIsP_at, cp, wl, eMt, iLst, lstOf, gsC, gsN, gT, gN, lcD, wipeR, opM, joinD, joinS, strsD, join_one]
theorem err_w1 (a : Addr) (μ : Mu) : fnD 4 (G_error a false true false false false false false false false false false) [.d (.adr a)] μ = .ok (.d (.str "script")) μ := by
  have er : rho0 4 [S.d (.adr a)] = [some (.d (.adr a)), none, none, none] := rfl
  unfold fnD G_error
  rw [er]
  have cp : ∀ n : Nat, n ≤ 100 → n ≤ cap := fun n h => by unfold cap; omega
  have wl : (Str.ofString "script").length + (Str.ofString " ").length ≤ 16777216 := by decide
  simp [sSeq, sIf, sNil, sSet, sRet, sRetN, sExpr, sPar, sAsg, sSub, sApp, putCell, bT, bNot, bAnd, bOr, eOp, eV, eC, eIf, eAnd, eOr, eNot, eUn, eBi, eCall, eCall0, eTup, eLst, eCell, eListC, eSl, eChain, eLc, aCons, aNil, oNone, oSome, asI, asB, op1, op2, op3, opA, opLC, viewA, view, allD, mkTup, mkLst, mkCell, mkL, Out.bind, toS, toSB, toSA, toSI, iSeq, seqOf, iRange1, iRange2, rng1, rng2, cmpD, addD, subD, modD, lenD, GF.intD, listD, tupleD, isiD, isiB, ixD, eqD, neD, inLD, notInLD, isND, notND, isNon, negD, revD, slD, max2D, min2D, absD, retS, wipeR, eIsP_at, cp, wl, eMt, iLst, lstOf, gsC, gsN, gT, gN, lcD, wipeR, opM, joinD, joinS, strsD, join_one]
theorem err_w2 (a : Addr) (μ : Mu) : fnD 4 (G_error a false false true false false false false false false false false) [.d (.adr a)] μ = .ok (.d (.str "height")) μ := by
  have er : rho0 4 [S.d (.adr a)] = [some (.d (.adr a)), none, none, none] := rfl
  unfold fnD G_error
  rw [er]
  have cp : ∀ n : Nat, n ≤ 100 → n ≤ cap := fun n h => by unfold cap; omega
  have wl : (Str.ofString "height").length + (Str.ofString " ").length ≤ 16777216 := by decide
  simp [sSeq, sIf, sNil, sSet, sRet, sRetN, sExpr, sPar, sAsg, sSub, sApp, putCell, bT, bNot, bAnd, bOr, eOp, eV, eC, eIf, eAnd, eOr, eNot, eUn, eBi, eCall, eCall0, eTup, eLst, eCell, eListC, eSl, eChain, eLc, aCons, aNil, oNone, oSome, asI, asB, op1, op2, op3, opA, opLC, viewA, view, allD, mkTup, mkLst, mkCell, mkL, Out.bind, toS, toSB, toSA, toSI, iSeq, seqOf, iRange1, iRange2, rng1, rng2, cmpD, addD, subD, modD, lenD, GF.intD, listD, tupleD, isiD, isiB, ixD, eqD, neD, inLD, notInLD, isND, notND, isNon, negD, revD, slD, max2D, min2D, absD, retS, wipeR, eIsP_at, cp, wl, eMt, iLst, lstOf, gsC, gsN, gT, gN, lcD, wipeR, opM, joinD, joinS, strsD, join_one]
theorem err_w3 (a : Addr) (μ : Mu) : fnD 4 (G_error a false false false true false false false false false false false) [.d (.adr a)] μ = .ok (.d (.str "place")) μ := by
  have er : rho0 4 [S.d (.adr a)] = [some (.d (.adr a)), none, none, none] := rfl
  unfold fnD G_error
  rw [er]
  have cp : ∀ n : Nat, n ≤ 100 → n ≤ cap := fun n h => by unfold cap; omega
  have wl : (Str.ofString "place").length + (Str.ofString " ").length ≤ 16777216 := by decide
  simp [sSeq, sIf, sNil, sSet, sRet, sRetN, sExpr, sPar, sAsg, sSub, sApp, putCell, bT, bNot, bAnd, bOr, eOp, eV, eC, eIf, eAnd, eOr, eNot, eUn, eBi, eCall, eCall0, eTup, eLst, eCell, eListC, eSl, eChain, eLc, aCons, aNil, oNone, oSome, asI, asB, op1, op2, op3, opA, opLC, viewA, view, allD, mkTup, mkLst, mkCell, mkL, Out.bind, toS, toSB, toSA, toSI, iSeq, seqOf, iRange1, iRange2, rng1, rng2, cmpD, addD, subD, modD, lenD, GF.intD, listD, tupleD, isiD, isiB, ixD, eqD, neD, inLD, notInLD, isND, notND, isNon, negD, revD, slD, max2D, min2D, absD, retS, wipeR, eIsP_at, cp, wl, eMt, iLst, lstOf, gsC, gsN, gT, gN, lcD, wipeR, opM, joinD, joinS, strsD, join_one]
theorem err_w4 (a : Addr) (μ : Mu) : fnD 4 (G_error a false false false false true false false false false false false) [.d (.adr a)] μ = .ok (.d (.str "number")) μ := by
  have er : rho0 4 [S.d (.adr a)] = [some (.d (.adr a)), none, none, none] := rfl
  unfold fnD G_error
  rw [er]
  have cp : ∀ n : Nat, n ≤ 100 → n ≤ cap := fun n h => by unfold cap; omega
  have wl : (Str.ofString "number").length + (Str.ofString " ").length ≤ 16777216 := by decide
  simp [sSeq, sIf, sNil, sSet, sRet, sRetN, sExpr, sPar, sAsg, sSub, sApp, putCell, bT, bNot, bAnd, bOr, eOp, eV, eC, eIf, eAnd, eOr, eNot, eUn, eBi, eCall, eCall0, eTup, eLst, eCell, eListC, eSl, eChain, eLc, aCons, aNil, oNone, oSome, asI, asB, op1, op2, op3, opA, opLC, viewA, view, allD, mkTup, mkLst, mkCell, mkL, Out.bind, toS, toSB, toSA, toSI, iSeq, seqOf, iRange1, iRange2, rng1, rng2, cmpD, addD, subD, modD, lenD, GF.intD, listD, tupleD, isiD, isiB, ixD, eqD, neD, inLD, notInLD, isND, notND, isNon, negD, revD, slD, max2D, min2D, absD, retS, wipeR, eIsP_at, cp, wl, eMt, iLst, lstOf, gsC, gsN, gT, gN, lcD, wipeR, opM, joinD, joinS, strsD, join_one]
theorem err_w5 (a : Addr) (μ : Mu) : fnD 4 (G_error a false false false false false true false false false false false) [.d (.adr a)] μ = .ok (.d (.str "index")) μ := by
  have er : rho0 4 [S.d (.adr a)] = [some (.d (.adr a)), none, none, none] := rfl
  unfold fnD G_error
  rw [er]
  have cp : ∀ n : Nat, n ≤ 100 → n ≤ cap := fun n h => by unfold cap; omega
  have wl : (Str.ofString "index").length + (Str.ofString " ").length ≤ 16777216 := by decide
  simp [sSeq, sIf, sNil, sSet, sRet, sRetN, sExpr, sPar, sAsg, sSub, sApp, putCell, bT, bNot, bAnd, bOr, eOp, eV, eC, eIf, eAnd, eOr, eNot, eUn, eBi, eCall, eCall0, eTup, eLst, eCell, eListC, eSl, eChain, eLc, aCons, aNil, oNone, oSome, asI, asB, op1, op2, op3, opA, opLC, viewA, view, allD, mkTup, mkLst, mkCell, mkL, Out.bind, toS, toSB, toSA, toSI, iSeq, seqOf, iRange1, iRange2, rng1, rng2, cmpD, addD, subD, modD, lenD, GF.intD, listD, tupleD, isiD, isiB, ixD, eqD, neD, inLD, notInLD, isND, notND, isNon, negD, revD, slD, max2D, min2D, absD, retS, wipeR, eIsP_at, cp, wl, eMt, iLst, lstOf, gsC, gsN, gT, gN, lcD, wipeR, opM, joinD, joinS, strsD, join_one]
theorem err_w6 (a : Addr) (μ : Mu) : fnD 4 (G_error a false false false false false false true false false false false) [.d (.adr a)] μ = .ok (.d (.str "stack")) μ := by
  have er : rho0 4 [S.d (.adr a)] = [some (.d (.adr a)), none, none, none] := rfl
  unfold fnD G_error
  rw [er]
  have cp : ∀ n : Nat, n ≤ 100 → n ≤ cap := fun n h => by unfold cap; omega
  have wl : (Str.ofString "stack").length + (Str.ofString " ").length ≤ 16777216 := by decide
  simp [sSeq, sIf, sNil, sSet, sRet, sRetN, sExpr, sPar, sAsg, sSub, sApp, putCell, bT, bNot, bAnd, bOr, eOp, eV, eC, eIf, eAnd, eOr, eNot, eUn, eBi, eCall, eCall0, eTup, eLst, eCell, eListC, eSl, eChain, eLc, aCons, aNil, oNone, oSome, asI, asB, op1, op2, op3, opA, opLC, viewA, view, allD, mkTup, mkLst, mkCell, mkL, Out.bind, toS, toSB, toSA, toSI, iSeq, seqOf, iRange1, iRange2, rng1, rng2, cmpD, addD, subD, modD, lenD, GF.intD, listD, tupleD, isiD, isiB, ixD, eqD, neD, inLD, notInLD, isND, notND, isNon, negD, revD, slD, max2D, min2D, absD, retS, wipeR, eIsP_at, cp, wl, eMt, iLst, lstOf, gsC, gsN, gT, gN, lcD, wipeR, opM, joinD, joinS, strsD, join_one]
theorem err_w7 (a : Addr) (μ : Mu) : fnD 4 (G_error a false false false false false false false true false false false) [.d (.adr a)] μ = .ok (.d (.str "unlike")) μ := by
  have er : rho0 4 [S.d (.adr a)] = [some (.d (.adr a)), none, none, none] := rfl
  unfold fnD G_error
  rw [er]
  have cp : ∀ n : Nat, n ≤ 100 → n ≤ cap := fun n h => by unfold cap; omega
  have wl : (Str.ofString "unlike").length + (Str.ofString " ").length ≤ 16777216 := by decide
  simp [sSeq, sIf, sNil, sSet, sRet, sRetN, sExpr, sPar, sAsg, sSub, sApp, putCell, bT, bNot, bAnd, bOr, eOp, eV, eC, eIf, eAnd, eOr, eNot, eUn, eBi, eCall, eCall0, eTup, eLst, eCell, eListC, eSl, eChain, eLc, aCons, aNil, oNone, oSome, asI, asB, op1, op2, op3, opA, opLC, viewA, view, allD, mkTup, mkLst, mkCell, mkL, Out.bind, toS, toSB, toSA, toSI, iSeq, seqOf, iRange1, iRange2, rng1, rng2, cmpD, addD, subD, modD, lenD, GF.intD, listD, tupleD, isiD, isiB, ixD, eqD, neD, inLD, notInLD, isND, notND, isNon, negD, revD, slD, max2D, min2D, absD, retS, wipeR, eIsP_at, cp, wl, eMt, iLst, lstOf, gsC, gsN, gT, gN, lcD, wipeR, opM, joinD, joinS, strsD, join_one]
theorem err_w8 (a : Addr) (μ : Mu) : fnD 4 (G_error a false false false false false false false false true false false) [.d (.adr a)] μ = .ok (.d (.str "undo")) μ := by
  have er : rho0 4 [S.d (.adr a)] = [some (.d (.adr a)), none, none, none] := rfl
  unfold fnD G_error
  rw [er]
  have cp : ∀ n : Nat, n ≤ 100 → n ≤ cap := fun n h => by unfold cap; omega
  have wl : (Str.ofString "undo").length + (Str.ofString " ").length ≤ 16777216 := by decide
  simp [sSeq, sIf, sNil, sSet, sRet, sRetN, sExpr, sPar, sAsg, sSub, sApp, putCell, bT, bNot, bAnd, bOr, eOp, eV, eC, eIf, eAnd, eOr, eNot, eUn, eBi, eCall, eCall0, eTup, eLst, eCell, eListC, eSl, eChain, eLc, aCons, aNil, oNone, oSome, asI, asB, op1, op2, op3, opA, opLC, viewA, view, allD, mkTup, mkLst, mkCell, mkL, Out.bind, toS, toSB, toSA, toSI, iSeq, seqOf, iRange1, iRange2, rng1, rng2, cmpD, addD, subD, modD, lenD, GF.intD, listD, tupleD, isiD, isiB, ixD, eqD, neD, inLD, notInLD, isND, notND, isNon, negD, revD, slD, max2D, min2D, absD, retS, wipeR, eIsP_at, cp, wl, eMt, iLst, lstOf, gsC, gsN, gT, gN, lcD, wipeR, opM, joinD, joinS, strsD, join_one]
end GF

set_option maxHeartbeats 2000000
/-! t[::-1] of a tuple. -/
namespace GF
open PySem PySem.Spec PyProof.Rows L2

theorem fm_congr {α β : Type} {f g : α → Option β} : ∀ l : List α, (∀ x ∈ l, f x = g x) → l.filterMap f = l.filterMap g
  | [], _ => rfl
  | a :: l, h => by
    rw [List.filterMap_cons, List.filterMap_cons, h a List.mem_cons_self, fm_congr l fun x hx => h x (List.mem_cons_of_mem _ hx)]
theorem pick_back {α : Type} (xs : Array α) : (List.range xs.size).filterMap (fun m : Nat => xs[((xs.size : Int) - 1 + (m : Int) * (-1)).toNat]?) = xs.toList.reverse := by
  have e : ∀ m ∈ List.range xs.size, xs[((xs.size : Int) - 1 + (m : Int) * (-1)).toNat]? = ((xs[·]?) ∘ fun k => xs.size - 1 - k) m := fun m hm => by
    have := List.mem_range.mp hm
    show _ = xs[xs.size - 1 - m]?
    congr 1
    omega
  rw [fm_congr _ e, ← List.filterMap_map, PySem.W.krv_range, List.filterMap_reverse, PySem.W.krv_all]
section
variable {prog : Program} {w : World} {A : Around} {E : Value → Shared → Prop} {s : Shared}
theorem getItem_tuple_rev {t sl : Addr} {items : Array Value} {vl vu vs : Value} {Q : Value → Shared → Prop} (ht : IsTup s.heap t items) (hs : s.heap.IsSliceOf sl vl vu vs) (pl : IsPart vl none) (pu : IsPart vu none) (ps : IsPart vs (some (-1)))
    (h : Q (.ref s.heap.objs.size) { s with heap := s.heap.push { cls := .type "tuple", data := .seq items.toList.reverse.toArray } }) (hsz : items.size ≤ sizeLine) : wpAny (model prog w) A (getItem (.ref t) (.ref sl)) Q E s := by
  have htake : sizeOk (.seq items.toList.reverse.toArray) := by
    show items.toList.reverse.toArray.size ≤ sizeLine
    rw [List.size_toArray, List.length_reverse, Array.length_toList]; exact hsz
  obtain ⟨os, hos, hcs, hds⟩ := id hs
  have hTs : s.TypeIs (.ref sl) "slice" := ⟨os, hos, hcs⟩
  unfold getItem
  try with_reducible refine wpAny_holding ?_
  first | refine wpAny_bind (wpAny_pure ?_) | skip
  refine wpAny_bind (wpAny_sequenceKey ht.typeIs (by decide) ?_)
  refine wpAny_bind (wpAny_callSpecial?_slot (name := Str.ofString "__getitem__") ht.typeIs PyProof.Rows.slot_tuple_getitem (wpAny_call_entry PyProof.Rows.slot_tuple_getitem ht.typeIs entry_tuple_getitem ?_ (args_tuple_getitem _ _)))
  show wpAny _ _ (Builtin.Tuple.tupleItemsOf (.ref t) >>= _) _ _ s; refine wpAny_bind (tupleItemsOf_ ht ?_)
  refine wpAny_bind (wpAny_typeOf hTs ?_); rw [if_pos (by decide)]
  have key : ∀ {Q' : Int × Int × Nat → Shared → Prop} {E' : Value → Shared → Prop} {A' : Around}, Q' ((items.size : Int) - 1, -1, items.size) s → wpAny (model prog w) A' (Builtin.Slice.sliceApplied (.ref sl) (pure (items.size : Int))) Q' E' s := fun {Q' E' A'} q => by
    unfold Builtin.Slice.sliceApplied Builtin.Slice.sliceFields
    refine wpAny_bind (wpAny_bind (wpAny_field hos hds (x := vl) rfl (wpAny_bind (wpAny_field hos hds (x := vu) rfl (wpAny_bind (wpAny_field hos hds (x := vs) rfl (wpAny_pure ?_)))))))
    refine wpAny_bind (HT.slicePart_ ps ?_)
    show wpAny _ _ (if ((-1 : Int) == 0) = true then _ else _) _ _ s; rw [if_neg (by decide)]
    refine wpAny_bind (HT.slicePart_ pl (wpAny_bind (HT.slicePart_ pu (wpAny_bind (wpAny_pure ?_)))))
    have e : Builtin.Slice.slicePlaces ((items.size : Int) - 1) (-1) (-1) = items.size := by
      unfold Builtin.Slice.slicePlaces
      rw [if_neg (by decide)]
      split <;> simp <;> omega
    show wpAny _ _ (pure ((items.size : Int) - 1, (-1 : Int), Builtin.Slice.slicePlaces ((items.size : Int) - 1) (-1) (-1))) _ _ s
    rw [e]; exact wpAny_pure q
  refine wpAny_bind (key ?_)
  show wpAny _ _ (if (((items.size : Int) - 1) == 0 && (-1 : Int) == 1 && items.size == items.size) = true then _ else _) _ _ s
  rw [if_neg (by intro q; rw [Bool.and_eq_true, Bool.and_eq_true] at q; exact absurd q.1.2 (by decide))]
  have pk : ((List.range items.size).filterMap fun (m : Nat) => items[((items.size : Int) - 1 + (m : Int) * (-1)).toNat]?).toArray = items.toList.reverse.toArray := by
    rw [pick_back]
  rw [pk]
  first
    | exact wpAny_bind (m := Builtin.Tuple.tupleExact _) (wpAny_newObj_type (wpAny_pure ⟨_, rfl, wpAny_pure h⟩) htake)
    | exact wpAny_bind (m := Builtin.Tuple.tupleExact _) (wpAny_newObj_type (wpAny_bind (wpAny_pure (wpAny_pure ⟨_, rfl, wpAny_pure h⟩))) htake)
    | exact wpAny_bind (wpAny_bind (m := Builtin.Tuple.tupleExact _) (wpAny_newObj_type (wpAny_pure (wpAny_pure ⟨_, rfl, wpAny_pure h⟩)) htake))
    | exact wpAny_bind (wpAny_bind (m := Builtin.Tuple.tupleExact _) (wpAny_newObj_type (wpAny_pure ⟨_, rfl, wpAny_pure h⟩) htake))
end

/-! ### over the layer: a list or a tuple -/
def revA : D → Option D
  | .lst l => some (.lst l.reverse)
  | .tup l => some (.tup l.reverse)
  | _ => none
section
variable {X : Cx} {W : WX} {e : Expr} {f : FE} {pos : Pos}
def tRevA (K : PySem.W.Frag) (te : TE) : TE := fun σ H Q => te σ H fun x H1 => ∃ a, x = .ref a ∧ ((∃ xs, SqL K H1 a xs ∧ ∀ p, H1 p = none → Q (.ref p) (upd H1 p (.lst xs.reverse))) ∨ ∃ xs, SqT K H1 a xs ∧ ∀ p, H1 p = none → Q (.ref p) (upd H1 p (.tup xs.reverse)))
theorem pe_revA {te : TE} {k : Nat} {p1 p2 p3 : Pos} (he : PE X e te) : PE X (.Subscript e (.Slice none none (some (.UnaryOp .USub (.Constant (.int 1) k p1) p2)) p3) pos) (tRevA X.K te) := by
  refine ⟨fun pins s σ H Q I h => Subscript_ (thn (he.run pins s σ H _ I h) fun v s1 ⟨x, H1, I1, r1, a, ex, q⟩ => ?_)⟩
  subst ex; cases r1
  have hst : PO X (some (.UnaryOp .USub (.Constant (.int 1) k p1) p2)) (tPart (tUn (rU fun i => .int (-i)) (tC (.int 1)))) := po_some (pe_un un_neg pe_int)
  refine wpAny_Slice (thn (po_none.run pins s1 σ H1 (fun o H2 => o = none ∧ H2 = H1) I1 ⟨rfl, rfl⟩) fun vl s2 ⟨l, H2, I2, pl, el, e2⟩ => ?_)
  subst el e2
  refine thn (po_none.run pins s2 σ H2 (fun o H3 => o = none ∧ H3 = H2) I2 ⟨rfl, rfl⟩) fun vu s3 ⟨u, H3, I3, pu, eu, e3⟩ => ?_
  subst eu e3
  refine thn (hst.run pins s3 σ H3 (fun o H4 => o = some (-1) ∧ H4 = H3) I3 ⟨1, rfl, -1, rfl, rfl, rfl⟩) fun vs s4 ⟨o, H4, I4, ps, eo, e4⟩ => ?_
  subst eo e4
  have I5 : Inv X pins σ H4 { s4 with heap := s4.heap.push { cls := .type "slice", data := .fields #[vl, vu, vs] } } := I4.kept (t' := s4.toks) fun b ob q => Heap.get?_push_of_some _ q
  show wpAny (model X.prog X.w) X.A (subscriptTail e (.Slice none none (some (.UnaryOp .USub (.Constant (.int 1) k p1) p2)) p3) (.ref a) (.ref s4.heap.objs.size)) (EP X pins σ Q) X.xe { s4 with heap := s4.heap.push { cls := .type "slice", data := .fields #[vl, vu, vs] } }
  rcases q with ⟨xs, hx, q⟩ | ⟨xs, hx, q⟩
  · obtain ⟨its, r, ht, hz⟩ := I5.list hx
    have hlen := r.length
    refine tail_any (ops := [.ref a, .ref s4.heap.objs.size]) ht.isList.typeIs (PySem.slot_list_getitem.lookup) (wpAny_getItem_list_slice ht.isList (Heap.IsSliceOf.new _ vl vu vs) pl pu ps (by decide) ?_ (by rw [List.size_toArray]; omega)) (by with_unfolding_all rfl)
    rw [PySem.W.krv_pick]
    exact ⟨.ref _, _, I5.laid (t' := s4.toks) (o := .lst xs.reverse) (fun b ob q => Heap.get?_push_of_some _ q) (Nat.le_refl _) ⟨by rw [List.length_reverse]; exact hz, _, 0, r.reverse, Heap.get?_push_size _ rfl⟩, rfl, q _ (I5.hok.fresh (Nat.le_refl _))⟩
  · obtain ⟨its, r, ht, hz⟩ := I5.tuple hx
    have hlen := r.length
    refine tail_any (ops := [.ref a, .ref s4.heap.objs.size]) ht.typeIs (PyProof.Rows.slot_tuple_getitem.lookup) (getItem_tuple_rev ht (Heap.IsSliceOf.new _ vl vu vs) pl pu ps ?_ (by rw [List.size_toArray]; omega)) (by with_unfolding_all rfl)
    exact ⟨.ref _, _, I5.laid (t' := s4.toks) (o := .tup xs.reverse) (fun b ob q => Heap.get?_push_of_some _ q) (Nat.le_refl _) (show ObjOk X.prog X.w _ _ _ (.tup xs.reverse) from ⟨by rw [List.length_reverse]; exact hz, _, r.reverse, IsTup.new _ _⟩), rfl, q _ (I5.hok.fresh (Nat.le_refl _))⟩
theorem de_revA {k : Nat} {p1 p2 p3 : Pos} (he : DE X W e f) : DE X W (.Subscript e (.Slice none none (some (.UnaryOp .USub (.Constant (.int 1) k p1) p2)) p3) pos) (eUn revA f) := by
  obtain ⟨te, pe, qe⟩ := he.ex
  refine .in ⟨_, pe_revA pe, fun σ H m ρ μ Q M rr w => qe σ H m ρ μ _ M rr (wpE_bind w fun s v μ1 H1 m1 e1 M1 r1 w1 => ?_)⟩
  unfold op1 at w1
  split at w1
  · rename_i d hd
    split at w1
    · rename_i z hz
      unfold revA at hz
      split at hz
      · cases hz
        obtain ⟨p, vs, rfl, tH, ia⟩ := (view_ok M1 hd r1).lst M1.sub
        exact ⟨p, rfl, .inl ⟨vs, SqL.of tH, fun p' hp => w1 _ _ (m1.add p' _) (ext_add (M1.free hp) _) (M1.new hp _) (.lst upd_same ((ia.mono (same_add (M1.free hp) _)).reverse))⟩⟩
      · cases hz
        obtain ⟨p, vs, rfl, _, tH, ia⟩ := (view_ok M1 hd r1).tup M1.sub
        exact ⟨p, rfl, .inr ⟨vs, tH, fun p' hp => w1 _ _ (m1.add p' _) (ext_add (M1.free hp) _) (M1.new hp _) (.tup (SqT.of upd_same) ((ia.mono (same_add (M1.free hp) _)).reverse))⟩⟩
      · cases hz
    · exact w1.elim
  · exact w1.elim
end
end GF

set_option maxHeartbeats 2000000
/-! What a script does with a place, in plain Lean. -/
namespace GF
/-- how many places a flip turns over -/
def blkZ (f : Fl) (n : Int) : Int := if f.1 = true then f.2 else n - f.2
def stpZ (n : Int) (f : Fl) (q : Int × Bool) : Int × Bool := if q.1 < blkZ f n then (blkZ f n - 1 - q.1, !q.2) else q
def runZ (n : Int) : List Fl → Int × Bool → Int × Bool
  | [], q => q
  | f :: s, q => runZ n s (stpZ n f q)
def onceZ (s : List Fl) (n p : Int) : Int × Bool := runZ n s (p, false)
def sameZ (s t : List Fl) (n : Int) : Prop := ∀ p : Int, 0 ≤ p → p < n → onceZ s n p = onceZ t n p

/-! ### places told from an end -/
/-- from the bottom (b) or from the top, d places off -/
def embZ (n : Int) (q : Bool × Int × Bool) : Int × Bool := (if q.1 = true then n - 1 - q.2.1 else q.2.1, q.2.2)
def symZ (f : Fl) (q : Bool × Int × Bool) : Bool × Int × Bool := match q with
  | (b, d, o) => if f.1 = true then (if b = false ∧ d < f.2 then (false, f.2 - 1 - d, !o) else (b, d, o))
    else if b = false then (true, d + f.2, !o) else if f.2 ≤ d then (false, d - f.2, !o) else (b, d, o)
def symR : List Fl → Bool × Int × Bool → Bool × Int × Bool
  | [], q => q
  | f :: s, q => symR s (symZ f q)
/-- a bound of all distances to come, with r flips left -/
def farZ (b : Bool) (d : Int) (r : Nat) : Int := max d 5 + 6 * (if b = true then ((r / 2 : Nat) : Int) else (((r + 1) / 2 : Nat) : Int))
theorem sym_step {f : Fl} (hf : okF f) {n : Int} {b : Bool} {d : Int} {o : Bool} {r : Nat} (hd : 0 ≤ d) (h : farZ b d (r + 1) ≤ n - 7) :
    stpZ n f (embZ n (b, d, o)) = embZ n (symZ f (b, d, o)) ∧ 0 ≤ (symZ f (b, d, o)).2.1 ∧ farZ (symZ f (b, d, o)).1 (symZ f (b, d, o)).2.1 r ≤ n - 7 := by
  obtain ⟨top, k⟩ := f
  unfold okF at hf
  unfold farZ at h
  cases top with
  | true =>
    simp at hf
    cases b with
    | false =>
      by_cases c : d < k
      · simp [stpZ, embZ, symZ, blkZ, c, farZ] at h ⊢
        omega
      · simp [stpZ, embZ, symZ, blkZ, c, farZ] at h ⊢
        omega
    | true =>
      have c : ¬ (n - 1 - d < k) := by simp at h; omega
      simp [stpZ, embZ, symZ, blkZ, c, farZ] at h ⊢
      omega
  | false =>
    simp at hf
    cases b with
    | false =>
      have c : d < n - k := by simp at h; omega
      simp [stpZ, embZ, symZ, blkZ, c, farZ] at h ⊢
      omega
    | true =>
      by_cases c : k ≤ d
      · have c2 : n - 1 - d < n - k := by omega
        simp [stpZ, embZ, symZ, blkZ, c, c2, farZ] at h ⊢
        omega
      · have c2 : ¬ (n - 1 - d < n - k) := by omega
        simp [stpZ, embZ, symZ, blkZ, c, c2, farZ] at h ⊢
        omega
theorem sym_run : ∀ (s : List Fl) {n : Int} {b : Bool} {d : Int} {o : Bool}, (∀ f ∈ s, okF f) → 0 ≤ d → farZ b d s.length ≤ n - 7 → runZ n s (embZ n (b, d, o)) = embZ n (symR s (b, d, o))
  | [], _, _, _, _, _, _, _ => rfl
  | f :: s, n, b, d, o, hok, hd, h => by
    obtain ⟨h1, h2, h3⟩ := sym_step (o := o) (hok f List.mem_cons_self) hd h
    show runZ n s (stpZ n f _) = embZ n (symR s (symZ f _))
    rw [h1]
    exact sym_run s (b := (symZ f (b, d, o)).1) (d := (symZ f (b, d, o)).2.1) (o := (symZ f (b, d, o)).2.2) (fun g hg => hok g (List.mem_cons_of_mem _ hg)) h2 h3
/-- two answers that agree at two heights, one behind another, are told alike -/
theorem emb_two {n : Int} {a b : Bool × Int × Bool} (h1 : embZ n a = embZ n b) (h2 : embZ (n + 1) a = embZ (n + 1) b) : a = b := by
  obtain ⟨a1, a2, a3⟩ := a
  obtain ⟨b1, b2, b3⟩ := b
  unfold embZ at h1 h2
  simp only [Prod.mk.injEq] at h1 h2 ⊢
  obtain ⟨h1, rfl⟩ := h1
  obtain ⟨h2, _⟩ := h2
  cases a1 <;> cases b1 <;> simp at h1 h2 ⊢ <;> omega
/-- beyond, three heights one behind another -/
theorem same_next {s t : List Fl} {L : Nat} (hs : ∀ f ∈ s, okF f) (ht : ∀ f ∈ t, okF f) (ls : s.length ≤ L) (lt : t.length ≤ L) {n : Int} (hn : 2 * (6 * (((L + 1) / 2 : Nat) : Int)) + 14 ≤ n) (h0 : sameZ s t n) (h1 : sameZ s t (n + 1)) : sameZ s t (n + 2) := by
  intro p p0 p1
  obtain ⟨C, hC⟩ : ∃ C : Int, C = 6 * (((L + 1) / 2 : Nat) : Int) := ⟨_, rfl⟩
  have C0 : 0 ≤ C := by omega
  have half : ∀ (b : Bool) (d : Int) (u : List Fl), u.length ≤ L → max d 5 + C ≤ n - 7 → farZ b d u.length ≤ n - 7 := fun b d u hu hd => by
    unfold farZ
    cases b
    · simp only [Bool.false_eq_true, if_false]
      have : (u.length + 1) / 2 ≤ (L + 1) / 2 := Nat.div_le_div_right (by omega)
      omega
    · simp only [if_true]
      have : u.length / 2 ≤ (L + 1) / 2 := Nat.div_le_div_right (by omega)
      omega
  have go : ∀ (b : Bool) (d : Int), 0 ≤ d → max d 5 + C ≤ n - 7 → symR s (b, d, false) = symR t (b, d, false) := fun b d d0 hd => by
    have e : ∀ (m : Int), n ≤ m → (sameZ s t m) → embZ m (symR s (b, d, false)) = embZ m (symR t (b, d, false)) := fun m hm hsm => by
      have q1 := half b d s ls hd
      have q2 := half b d t lt hd
      rw [← sym_run s hs d0 (show farZ b d s.length ≤ m - 7 by omega), ← sym_run t ht d0 (show farZ b d t.length ≤ m - 7 by omega)]
      cases b
      · exact hsm d d0 (by omega)
      · exact hsm (m - 1 - d) (by omega) (by omega)
    exact emb_two (e n (Int.le_refl _) h0) (e (n + 1) (by omega) h1)
  by_cases c : max p 5 + C ≤ n - 7
  · have q1 := half false p s ls c
    have q2 := half false p t lt c
    have z := go false p p0 c
    have e1 := sym_run s (n := n + 2) (b := false) (d := p) (o := false) hs p0 (by omega)
    have e2 := sym_run t (n := n + 2) (b := false) (d := p) (o := false) ht p0 (by omega)
    show runZ (n + 2) s (p, false) = runZ (n + 2) t (p, false)
    have e3 : embZ (n + 2) (false, p, false) = (p, false) := rfl
    rw [e3] at e1 e2
    rw [e1, e2, z]
  · obtain ⟨e, he⟩ : ∃ e : Int, e = n + 1 - p := ⟨_, rfl⟩
    have c2 : max e 5 + C ≤ n - 7 := by omega
    have z := go true e (by omega) c2
    have q1 := half true e s ls c2
    have q2 := half true e t lt c2
    have e1 := sym_run s (n := n + 2) (b := true) (d := e) (o := false) hs (by omega) (by omega)
    have e2 := sym_run t (n := n + 2) (b := true) (d := e) (o := false) ht (by omega) (by omega)
    have e3 : embZ (n + 2) (true, e, false) = (p, false) := by
      unfold embZ
      simp only [if_true, Prod.mk.injEq, and_true]
      omega
    show runZ (n + 2) s (p, false) = runZ (n + 2) t (p, false)
    rw [e3] at e1 e2
    rw [e1, e2, z]
theorem same_on {s t : List Fl} {L : Nat} (hs : ∀ f ∈ s, okF f) (ht : ∀ f ∈ t, okF f) (ls : s.length ≤ L) (lt : t.length ≤ L) {n : Int} (hn : 2 * (6 * (((L + 1) / 2 : Nat) : Int)) + 14 ≤ n) (h0 : sameZ s t n) (h1 : sameZ s t (n + 1)) : ∀ k : Nat, sameZ s t (n + k) ∧ sameZ s t (n + k + 1)
  | 0 => ⟨by simpa using h0, by simpa using h1⟩
  | k + 1 => by
    obtain ⟨a, b⟩ := same_on hs ht ls lt hn h0 h1 k
    refine ⟨by rw [show n + ((k + 1 : Nat) : Int) = n + k + 1 by omega]; exact b, ?_⟩
    rw [show n + ((k + 1 : Nat) : Int) + 1 = n + k + 2 by omega]
    exact same_next hs ht ls lt (n := n + k) (by omega) a b
theorem same_far {s t : List Fl} {L : Nat} (hs : ∀ f ∈ s, okF f) (ht : ∀ f ∈ t, okF f) (ls : s.length ≤ L) (lt : t.length ≤ L) {n m : Int} (hn : 2 * (6 * (((L + 1) / 2 : Nat) : Int)) + 14 ≤ n) (h0 : sameZ s t n) (h1 : sameZ s t (n + 1)) (hm : n ≤ m) : sameZ s t m := by
  have := (same_on hs ht ls lt hn h0 h1 (m - n).toNat).1
  rw [show n + ((m - n).toNat : Int) = m by omega] at this
  exact this
end GF

set_option maxHeartbeats 2000000
/-! Stacks as lists of numbers and sides, flipped block by block. -/
namespace GF
abbrev Pc := Int × Bool
def turnP (x : Pc) : Pc := (x.1, !x.2)
def flipL (l : List Pc) (f : Fl) : List Pc := ((l.take (blkZ f l.length).toNat).map turnP).reverse ++ l.drop (blkZ f l.length).toNat
def runL : List Fl → List Pc → List Pc
  | [], l => l
  | f :: s, l => runL s (flipL l f)
def newL (n : Nat) : List Pc := (List.range n).map fun i : Nat => ((i : Int), false)
def lyingL (s : List Fl) (n : Nat) : List Pc := runL s (newL n)
theorem flipL_len (l : List Pc) (f : Fl) : (flipL l f).length = l.length := by
  unfold flipL
  rw [List.length_append, List.length_reverse, List.length_map, List.length_take, List.length_drop]
  omega
theorem runL_len : ∀ (s : List Fl) (l : List Pc), (runL s l).length = l.length
  | [], _ => rfl
  | f :: s, l => by show (runL s (flipL l f)).length = _; rw [runL_len s, flipL_len]
theorem blk_bd {f : Fl} (hf : okF f) {n : Int} (hn : 6 ≤ n) : 0 ≤ blkZ f n ∧ blkZ f n ≤ n := by
  obtain ⟨t, k⟩ := f
  unfold okF at hf
  unfold blkZ
  cases t <;> simp at hf ⊢ <;> omega
theorem flipL_get {l : List Pc} {f : Fl} (hf : okF f) (hn : 6 ≤ l.length) {q : Int} {x : Int} {o : Bool} (q0 : 0 ≤ q) (q1 : q < l.length) (h : l[q.toNat]? = some (x, o)) :
    (flipL l f)[(stpZ l.length f (q, o)).1.toNat]? = some (x, (stpZ l.length f (q, o)).2) ∧ 0 ≤ (stpZ l.length f (q, o)).1 ∧ (stpZ l.length f (q, o)).1 < l.length := by
  obtain ⟨b0, b1⟩ := blk_bd hf (n := l.length) (by omega)
  obtain ⟨b, hb⟩ : ∃ b : Nat, (b : Int) = blkZ f l.length := ⟨(blkZ f l.length).toNat, by omega⟩
  obtain ⟨m, hm⟩ : ∃ m : Nat, (m : Int) = q := ⟨q.toNat, by omega⟩
  subst hm
  have hbn : b ≤ l.length := by omega
  have h : l[m]? = some (x, o) := by simpa using h
  unfold flipL stpZ
  rw [← hb]
  have tb : ((b : Int)).toNat = b := by omega
  rw [tb]
  by_cases c : (m : Int) < b
  · have e : ((b : Int) - 1 - m).toNat = b - 1 - m := by omega
    rw [if_pos c]
    refine ⟨?_, by omega, by omega⟩
    show (((l.take b).map turnP).reverse ++ l.drop b)[((b : Int) - 1 - m).toNat]? = some (x, !o)
    have lm : ((l.take b).map turnP).length = b := by rw [List.length_map, List.length_take]; omega
    rw [e, List.getElem?_append_left (by rw [List.length_reverse, lm]; omega), List.getElem?_reverse (by rw [lm]; omega), lm]
    have e2 : b - 1 - (b - 1 - m) = m := by omega
    rw [e2, List.getElem?_map, List.getElem?_take, if_pos (by omega), h]
    rfl
  · rw [if_neg c]
    refine ⟨?_, by omega, q1⟩
    show (((l.take b).map turnP).reverse ++ l.drop b)[((m : Int)).toNat]? = some (x, o)
    have lm : (((l.take b).map turnP).reverse).length = b := by rw [List.length_reverse, List.length_map, List.length_take]; omega
    rw [show ((m : Int)).toNat = m by omega, List.getElem?_append_right (by rw [lm]; omega), lm, List.getElem?_drop, show b + (m - b) = m by omega]
    exact h
theorem runL_get : ∀ (s : List Fl) {l : List Pc} {q x : Int} {o : Bool}, (∀ f ∈ s, okF f) → 6 ≤ l.length → 0 ≤ q → q < l.length → l[q.toNat]? = some (x, o) →
    (runL s l)[(runZ l.length s (q, o)).1.toNat]? = some (x, (runZ l.length s (q, o)).2) ∧ 0 ≤ (runZ l.length s (q, o)).1 ∧ (runZ l.length s (q, o)).1 < l.length
  | [], l, q, x, o, _, _, q0, q1, h => ⟨h, q0, q1⟩
  | f :: s, l, q, x, o, hok, hn, q0, q1, h => by
    obtain ⟨h1, h2, h3⟩ := flipL_get (hok f List.mem_cons_self) hn q0 q1 h
    have := runL_get s (l := flipL l f) (q := (stpZ l.length f (q, o)).1) (x := x) (o := (stpZ l.length f (q, o)).2) (fun g hg => hok g (List.mem_cons_of_mem _ hg)) (by rw [flipL_len]; exact hn) h2 (by rw [flipL_len]; exact h3) h1
    rw [flipL_len] at this
    exact this
theorem flipL_perm (l : List Pc) (f : Fl) : ((flipL l f).map (·.1)).Perm (l.map (·.1)) := by
  unfold flipL
  rw [List.map_append, List.map_reverse, List.map_map]
  have e : ((fun x : Pc => x.1) ∘ turnP) = fun x : Pc => x.1 := rfl
  rw [e]
  refine ((List.reverse_perm _).append_right _).trans ?_
  rw [← List.map_append, List.take_append_drop]
theorem runL_perm : ∀ (s : List Fl) (l : List Pc), ((runL s l).map (·.1)).Perm (l.map (·.1))
  | [], _ => List.Perm.refl _
  | f :: s, l => (runL_perm s (flipL l f)).trans (flipL_perm l f)
theorem newL_len (n : Nat) : (newL n).length = n := by unfold newL; simp
theorem newL_map (n : Nat) : (newL n).map (·.1) = (List.range n).map fun i : Nat => (i : Int) := by
  unfold newL
  rw [List.map_map]; rfl
theorem newL_get {n m : Nat} (h : m < n) : (newL n)[m]? = some ((m : Int), false) := by
  unfold newL
  rw [List.getElem?_map, List.getElem?_range h]; rfl
theorem lying_len (s : List Fl) (n : Nat) : (lyingL s n).length = n := by unfold lyingL; rw [runL_len, newL_len]
theorem lying_get {s : List Fl} (hs : ∀ f ∈ s, okF f) {n : Nat} (hn : 6 ≤ n) {p : Int} (p0 : 0 ≤ p) (p1 : p < n) : (lyingL s n)[(onceZ s n p).1.toNat]? = some (p, (onceZ s n p).2) ∧ 0 ≤ (onceZ s n p).1 ∧ (onceZ s n p).1 < n := by
  have h : (newL n)[p.toNat]? = some (p, false) := by
    rw [newL_get (by omega)]
    congr 2
    omega
  have := runL_get s hs (by rw [newL_len]; exact hn) p0 (by rw [newL_len]; exact p1) h
  rw [newL_len] at this
  exact this
theorem lying_nodup (s : List Fl) (n : Nat) : ((lyingL s n).map (·.1)).Nodup := by
  unfold lyingL
  rw [(runL_perm s (newL n)).nodup_iff, newL_map]
  exact List.Pairwise.map _ (fun a b h e => h (by omega)) List.nodup_range
theorem lying_num {s : List Fl} {n : Nat} {x : Pc} (h : x ∈ lyingL s n) : 0 ≤ x.1 ∧ x.1 < n := by
  have : x.1 ∈ (lyingL s n).map (·.1) := List.mem_map.mpr ⟨x, h, rfl⟩
  unfold lyingL at this
  rw [(runL_perm s (newL n)).mem_iff, newL_map] at this
  obtain ⟨i, hi, e⟩ := List.mem_map.mp this
  have := List.mem_range.mp hi
  omega
/-- an item's place is told by its number -/
theorem num_inj {l : List Pc} (hN : (l.map (·.1)).Nodup) {i j : Nat} {x y : Pc} (hi : l[i]? = some x) (hj : l[j]? = some y) (e : x.1 = y.1) : i = j := by
  have h1 : (l.map (·.1))[i]? = some x.1 := by rw [List.getElem?_map, hi]; rfl
  have h2 : (l.map (·.1))[j]? = some x.1 := by rw [List.getElem?_map, hj, e]; rfl
  obtain ⟨b1, e1⟩ := List.getElem?_eq_some_iff.mp h1
  obtain ⟨b2, e2⟩ := List.getElem?_eq_some_iff.mp h2
  exact (List.getElem_inj hN).mp (e1.trans e2.symm)
theorem lying_same {s t : List Fl} (hs : ∀ f ∈ s, okF f) (ht : ∀ f ∈ t, okF f) {n : Nat} (hn : 6 ≤ n) : lyingL s n = lyingL t n ↔ sameZ s t n := by
  constructor
  · intro e p p0 p1
    obtain ⟨a1, a2, a3⟩ := lying_get hs hn p0 p1
    obtain ⟨b1, b2, b3⟩ := lying_get ht hn p0 p1
    rw [← e] at b1
    have := num_inj (lying_nodup s n) a1 b1 rfl
    have e1 : (onceZ s n p).1 = (onceZ t n p).1 := by omega
    rw [e1, b1] at a1
    have e2 : (onceZ t n p).2 = (onceZ s n p).2 := by
      have := Option.some.inj a1
      exact (Prod.mk.inj this).2
    exact Prod.ext e1 e2.symm
  · intro h
    apply List.ext_getElem?
    intro i
    by_cases hi : i < n
    · obtain ⟨⟨x, o⟩, hx⟩ : ∃ x, (lyingL s n)[i]? = some x := ⟨_, List.getElem?_eq_getElem (by rw [lying_len]; exact hi)⟩
      obtain ⟨x0, x1⟩ := lying_num (List.mem_of_getElem? hx)
      obtain ⟨a1, a2, a3⟩ := lying_get hs hn x0 x1
      obtain ⟨b1, b2, b3⟩ := lying_get ht hn x0 x1
      have ei := num_inj (lying_nodup s n) hx a1 rfl
      rw [← h x x0 x1] at b1
      rw [ei, a1, b1]
    · rw [List.getElem?_eq_none (by rw [lying_len]; omega), List.getElem?_eq_none (by rw [lying_len]; omega)]
end GF

set_option maxHeartbeats 2000000
/-! Defs that the laws share: what they reckon. -/
namespace GF
open PySem PySem.Spec PyProof.Rows L2

def G_is_int : FS :=
      (sRet (eAnd (eBi isiD (aCons (eV 0) (aCons (eC (.ty "int")) aNil))) (eAnd (eNot (eBi isiD (aCons (eV 0) (aCons (eC (.ty "bool")) aNil)))) (eChain leD leD (eV 1) (eV 0) (eV 2)))))
def g_is_int : List S → Mu → Out S := fnD 3 G_is_int
def G_is_right_flip : FS :=
      (sSeq (sIf (bOr (bNot (bT (eBi isiD (aCons (eV 0) (aCons (eC (.ty "tuple")) aNil))))) (bOr (bT (eOp neD (eBi lenD (aCons (eV 0) aNil)) (eC (.int 2)))) (bNot (bT (eBi isiD (aCons (eOp ixD (eV 0) (eC (.int 0))) (aCons (eC (.ty "str")) aNil)))))))
      (sRet (eC (.bl false)))
      sNil)
      (sSeq (sIf (bT (eOp eqD (eOp ixD (eV 0) (eC (.int 0))) (eC (.str "top"))))
      (sRet (eCall 3 g_is_int (aCons (eOp ixD (eV 0) (eC (.int 1))) (aCons (eC (.int 1)) (aCons (eC (.int 6)) aNil)))))
      sNil)
      (sRet (eAnd (eOp eqD (eOp ixD (eV 0) (eC (.int 0))) (eC (.str "but"))) (eCall 3 g_is_int (aCons (eOp ixD (eV 0) (eC (.int 1))) (aCons (eC (.int 0)) (aCons (eC (.int 6)) aNil))))))))
def g_is_right_flip : List S → Mu → Out S := fnD 1 G_is_right_flip
def G_are_flips : FS :=
      (sRet (eAnd (eBi isiD (aCons (eV 0) (aCons (eC (.ty "tuple")) aNil))) (eAnd (eOp leD (eBi lenD (aCons (eV 0) aNil)) (eV 1)) (eBi allOfD (aCons (eLc (iSeq (eV 0)) (gN 2) bYes (eCall 1 g_is_right_flip (aCons (eV 2) aNil)) [2]) aNil)))))
def g_are_flips : List S → Mu → Out S := fnD 3 G_are_flips
def G_is_right_script : FS :=
      (sRet (eCall 2 g_are_flips (aCons (eV 0) (aCons (eC (.int 8)) aNil))))
def g_is_right_script : List S → Mu → Out S := fnD 1 G_is_right_script
def G_block_of : FS :=
      (sRet (eIf (bT (eOp eqD (eOp ixD (eV 0) (eC (.int 0))) (eC (.str "top")))) (eOp ixD (eV 0) (eC (.int 1))) (eOp subD (eV 1) (eOp ixD (eV 0) (eC (.int 1))))))
def g_block_of : List S → Mu → Out S := fnD 2 G_block_of
def G_need_script : FS :=
      (sIf (bNot (bT (eCall 1 g_is_right_script (aCons (eV 0) aNil))))
      (sRaise "InvalidScript")
      sNil)
def g_need_script : List S → Mu → Out S := fnD 1 G_need_script
def glb1_once : FS :=
      (sSeq (sSet 5 (eCall 2 g_block_of (aCons (eV 4) (aCons (eV 1) aNil))))
      (sIf (bT (eOp ltD (eV 2) (eV 5)))
      (sPar 2 3 (aCons (eOp subD (eOp subD (eV 5) (eC (.int 1))) (eV 2)) (aCons (eNot (eV 3)) aNil)))
      sNil))
def G_once : FS :=
      (sSeq (sSet 3 (eC (.bl false)))
      (sSeq (sFor (iSeq (eV 0)) (gN 4)
      glb1_once)
      (sRet (eTup (aCons (eV 2) (aCons (eV 3) aNil))))))
def g_once : List S → Mu → Out S := fnD 6 G_once
def G__law_flipped : FS :=
      (sSeq (sSet 2 (eIf (bT (eOp eqD (eOp ixD (eV 1) (eC (.int 0))) (eC (.str "top")))) (eOp ixD (eV 1) (eC (.int 1))) (eOp subD (eBi lenD (aCons (eV 0) aNil)) (eOp ixD (eV 1) (eC (.int 1))))))
      (sRet (eOp addD (eUn revA (eLc (iSeq (eSl (eV 0) oNone (oSome (eV 2)))) (gT 2 (gsC (gN 3) (gsC (gN 4) gsN))) bYes (eTup (aCons (eV 3) (aCons (eNot (eV 4)) aNil))) [3, 4])) (eSl (eV 0) (oSome (eV 2)) oNone))))
def g__law_flipped : List S → Mu → Out S := fnD 5 G__law_flipped
def glb1__law_lying : FS :=
      (sSet 2 (eCall 2 g__law_flipped (aCons (eV 2) (aCons (eV 4) aNil))))
def G__law_lying : FS :=
      (sSeq (sSet 2 (eLc (iRange1 (aCons (eV 1) aNil)) (gN 3) bYes (eTup (aCons (eV 3) (aCons (eC (.bl false)) aNil))) [3]))
      (sSeq (sFor (iSeq (eV 0)) (gN 4)
      glb1__law_lying)
      (sRet (eV 2))))
def g__law_lying : List S → Mu → Out S := fnD 5 G__law_lying
def G__law_is_bool : FS :=
      (sRet (eAnd (eBi isiD (aCons (eV 0) (aCons (eC (.ty "bool")) aNil))) (eOp eqD (eV 0) (eV 1))))
def g__law_is_bool : List S → Mu → Out S := fnD 2 G__law_is_bool

def isIntB (d : D) (lo hi : Int) : Bool := match d with
  | .int i => decide (lo ≤ i) && decide (i ≤ hi)
  | _ => false
theorem is_int_ok {k : Nat} {d : D} {lo hi : Int} {μ : Mu} (h : dat k d = true) : g_is_int [.d d, .d (.int lo), .d (.int hi)] μ = .ok (.d (.bl (isIntB d lo hi))) μ := by
  unfold g_is_int fnD G_is_int
  have er : rho0 3 [S.d d, .d (.int lo), .d (.int hi)] = [some (.d d), some (.d (.int lo)), some (.d (.int hi))] := rfl
  rw [er]
  cases d with
  | scr _ => simp [dat] at h
  | fn _ => simp [dat] at h
  | ty _ => simp [dat] at h
  | adr _ => simp [dat] at h
  | dic _ _ => simp [dat] at h
  | int i =>
    by_cases c : lo ≤ i
    · simp [sSeq, sIf, sNil, sSet, sRet, sRetN, sExpr, sPar, sAsg, sSub, sApp, putCell, bT, bNot, bAnd, bOr, eOp, eV, eC, eIf, eAnd, eOr, eNot, eUn, eBi, eCall, eCall0, eTup, eLst, eCell, eListC, eSl, eChain, eLc, aCons, aNil, oNone, oSome, asI, asB, op1, op2, op3, opA, opLC, viewA, view, allD, mkTup, mkLst, mkCell, mkL, Out.bind, toS, toSB, toSA, toSI, iSeq, seqOf, iRange1, iRange2, rng1, rng2, cmpD, addD, subD, modD, lenD, GF.intD, listD, tupleD, isiD, isiB, ixD, eqD, neD, inLD, notInLD, isND, notND, isNon, negD, revD, revA, slD, max2D, min2D, absD, retS, wipeR, isIntB, c]
    · simp [sSeq, sIf, sNil, sSet, sRet, sRetN, sExpr, sPar, sAsg, sSub, sApp, putCell, bT, bNot, bAnd, bOr, eOp, eV, eC, eIf, eAnd, eOr, eNot, eUn, eBi, eCall, eCall0, eTup, eLst, eCell, eListC, eSl, eChain, eLc, aCons, aNil, oNone, oSome, asI, asB, op1, op2, op3, opA, opLC, viewA, view, allD, mkTup, mkLst, mkCell, mkL, Out.bind, toS, toSB, toSA, toSI, iSeq, seqOf, iRange1, iRange2, rng1, rng2, cmpD, addD, subD, modD, lenD, GF.intD, listD, tupleD, isiD, isiB, ixD, eqD, neD, inLD, notInLD, isND, notND, isNon, negD, revD, revA, slD, max2D, min2D, absD, retS, wipeR, isIntB, c]
  | _ => simp [sSeq, sIf, sNil, sSet, sRet, sRetN, sExpr, sPar, sAsg, sSub, sApp, putCell, bT, bNot, bAnd, bOr, eOp, eV, eC, eIf, eAnd, eOr, eNot, eUn, eBi, eCall, eCall0, eTup, eLst, eCell, eListC, eSl, eChain, eLc, aCons, aNil, oNone, oSome, asI, asB, op1, op2, op3, opA, opLC, viewA, view, allD, mkTup, mkLst, mkCell, mkL, Out.bind, toS, toSB, toSA, toSI, iSeq, seqOf, iRange1, iRange2, rng1, rng2, cmpD, addD, subD, modD, lenD, GF.intD, listD, tupleD, isiD, isiB, ixD, eqD, neD, inLD, notInLD, isND, notND, isNon, negD, revD, revA, slD, max2D, min2D, absD, retS, wipeR, isIntB]
def flipB (d : D) : Bool := match d with
  | .tup [.str a, x] => if a = "top" then isIntB x 1 6 else (decide (a = "but") && isIntB x 0 6)
  | _ => false
theorem so_top : SeqAt.shaped (toPy (.str "top")) = true := by decide +kernel
theorem so_but : SeqAt.shaped (toPy (.str "but")) = true := by decide +kernel
theorem flip_b_ok {k : Nat} {d : D} {μ : Mu} (h : dat k d = true) (hk : k ≤ 64) : g_is_right_flip [.d d] μ = .ok (.d (.bl (flipB d))) μ := by
  unfold g_is_right_flip fnD G_is_right_flip
  have er : rho0 1 [S.d d] = [some (.d d)] := rfl
  rw [er]
  cases d with
  | scr _ => simp [dat] at h
  | fn _ => simp [dat] at h
  | ty _ => simp [dat] at h
  | adr _ => simp [dat] at h
  | dic _ _ => simp [dat] at h
  | tup l =>
    cases k with
    | zero => simp [dat] at h
    | succ k =>
      have h : datA k l = true := by simpa [dat] using h
      match l, h with
      | [], _ => simp [sSeq, sIf, sNil, sSet, sRet, sRetN, sExpr, sPar, sAsg, sSub, sApp, putCell, bT, bNot, bAnd, bOr, eOp, eV, eC, eIf, eAnd, eOr, eNot, eUn, eBi, eCall, eCall0, eTup, eLst, eCell, eListC, eSl, eChain, eLc, aCons, aNil, oNone, oSome, asI, asB, op1, op2, op3, opA, opLC, viewA, view, allD, mkTup, mkLst, mkCell, mkL, Out.bind, toS, toSB, toSA, toSI, iSeq, seqOf, iRange1, iRange2, rng1, rng2, cmpD, addD, subD, modD, lenD, GF.intD, listD, tupleD, isiD, isiB, ixD, eqD, neD, inLD, notInLD, isND, notND, isNon, negD, revD, revA, slD, max2D, min2D, absD, retS, wipeR, flipB, eqv_int, shaped_int]
      | [a], _ => simp [sSeq, sIf, sNil, sSet, sRet, sRetN, sExpr, sPar, sAsg, sSub, sApp, putCell, bT, bNot, bAnd, bOr, eOp, eV, eC, eIf, eAnd, eOr, eNot, eUn, eBi, eCall, eCall0, eTup, eLst, eCell, eListC, eSl, eChain, eLc, aCons, aNil, oNone, oSome, asI, asB, op1, op2, op3, opA, opLC, viewA, view, allD, mkTup, mkLst, mkCell, mkL, Out.bind, toS, toSB, toSA, toSI, iSeq, seqOf, iRange1, iRange2, rng1, rng2, cmpD, addD, subD, modD, lenD, GF.intD, listD, tupleD, isiD, isiB, ixD, eqD, neD, inLD, notInLD, isND, notND, isNon, negD, revD, revA, slD, max2D, min2D, absD, retS, wipeR, flipB, eqv_int, shaped_int]
      | a :: b :: c :: r, _ =>
        have : ¬ ((r.length : Int) + 1 + 1 + 1 = 2) := by omega
        simp [sSeq, sIf, sNil, sSet, sRet, sRetN, sExpr, sPar, sAsg, sSub, sApp, putCell, bT, bNot, bAnd, bOr, eOp, eV, eC, eIf, eAnd, eOr, eNot, eUn, eBi, eCall, eCall0, eTup, eLst, eCell, eListC, eSl, eChain, eLc, aCons, aNil, oNone, oSome, asI, asB, op1, op2, op3, opA, opLC, viewA, view, allD, mkTup, mkLst, mkCell, mkL, Out.bind, toS, toSB, toSA, toSI, iSeq, seqOf, iRange1, iRange2, rng1, rng2, cmpD, addD, subD, modD, lenD, GF.intD, listD, tupleD, isiD, isiB, ixD, eqD, neD, inLD, notInLD, isND, notND, isNon, negD, revD, revA, slD, max2D, min2D, absD, retS, wipeR, flipB, eqv_int, shaped_int, this]
      | [a, b], h =>
        simp [datA] at h
        have i0 : atI [a, b] 0 = some a := by simp [atI, ixN]
        have i1 : atI [a, b] 1 = some b := by simp [atI, ixN]
        cases a with
        | str s =>
          have hs : SeqAt.shaped (toPy (.str s)) = true := shaped_of (k := k) h.1 (by omega)
          have i1' := @is_int_ok k b 1 6 μ h.2
          have i0' := @is_int_ok k b 0 6 μ h.2
          by_cases c1 : s = "top"
          · subst c1
            simp [sSeq, sIf, sNil, sSet, sRet, sRetN, sExpr, sPar, sAsg, sSub, sApp, putCell, bT, bNot, bAnd, bOr, eOp, eV, eC, eIf, eAnd, eOr, eNot, eUn, eBi, eCall, eCall0, eTup, eLst, eCell, eListC, eSl, eChain, eLc, aCons, aNil, oNone, oSome, asI, asB, op1, op2, op3, opA, opLC, viewA, view, allD, mkTup, mkLst, mkCell, mkL, Out.bind, toS, toSB, toSA, toSI, iSeq, seqOf, iRange1, iRange2, rng1, rng2, cmpD, addD, subD, modD, lenD, GF.intD, listD, tupleD, isiD, isiB, ixD, eqD, neD, inLD, notInLD, isND, notND, isNon, negD, revD, revA, slD, max2D, min2D, absD, retS, wipeR, flipB, eqv_int, shaped_int, i0, i1, so_top, eqv_str, i1']
          · by_cases c2 : s = "but"
            · subst c2
              simp [sSeq, sIf, sNil, sSet, sRet, sRetN, sExpr, sPar, sAsg, sSub, sApp, putCell, bT, bNot, bAnd, bOr, eOp, eV, eC, eIf, eAnd, eOr, eNot, eUn, eBi, eCall, eCall0, eTup, eLst, eCell, eListC, eSl, eChain, eLc, aCons, aNil, oNone, oSome, asI, asB, op1, op2, op3, opA, opLC, viewA, view, allD, mkTup, mkLst, mkCell, mkL, Out.bind, toS, toSB, toSA, toSI, iSeq, seqOf, iRange1, iRange2, rng1, rng2, cmpD, addD, subD, modD, lenD, GF.intD, listD, tupleD, isiD, isiB, ixD, eqD, neD, inLD, notInLD, isND, notND, isNon, negD, revD, revA, slD, max2D, min2D, absD, retS, wipeR, flipB, eqv_int, shaped_int, i0, i1, so_top, so_but, eqv_str, i0', c1]
            · simp [sSeq, sIf, sNil, sSet, sRet, sRetN, sExpr, sPar, sAsg, sSub, sApp, putCell, bT, bNot, bAnd, bOr, eOp, eV, eC, eIf, eAnd, eOr, eNot, eUn, eBi, eCall, eCall0, eTup, eLst, eCell, eListC, eSl, eChain, eLc, aCons, aNil, oNone, oSome, asI, asB, op1, op2, op3, opA, opLC, viewA, view, allD, mkTup, mkLst, mkCell, mkL, Out.bind, toS, toSB, toSA, toSI, iSeq, seqOf, iRange1, iRange2, rng1, rng2, cmpD, addD, subD, modD, lenD, GF.intD, listD, tupleD, isiD, isiB, ixD, eqD, neD, inLD, notInLD, isND, notND, isNon, negD, revD, revA, slD, max2D, min2D, absD, retS, wipeR, flipB, eqv_int, shaped_int, i0, i1, so_top, so_but, hs, eqv_str, c1, c2]
        | scr _ => simp [dat] at h
        | fn _ => simp [dat] at h
        | ty _ => simp [dat] at h
        | adr _ => simp [dat] at h
        | dic _ _ => simp [dat] at h
        | _ => simp [sSeq, sIf, sNil, sSet, sRet, sRetN, sExpr, sPar, sAsg, sSub, sApp, putCell, bT, bNot, bAnd, bOr, eOp, eV, eC, eIf, eAnd, eOr, eNot, eUn, eBi, eCall, eCall0, eTup, eLst, eCell, eListC, eSl, eChain, eLc, aCons, aNil, oNone, oSome, asI, asB, op1, op2, op3, opA, opLC, viewA, view, allD, mkTup, mkLst, mkCell, mkL, Out.bind, toS, toSB, toSA, toSI, iSeq, seqOf, iRange1, iRange2, rng1, rng2, cmpD, addD, subD, modD, lenD, GF.intD, listD, tupleD, isiD, isiB, ixD, eqD, neD, inLD, notInLD, isND, notND, isNon, negD, revD, revA, slD, max2D, min2D, absD, retS, wipeR, flipB, eqv_int, shaped_int, i0, i1]
  | _ => simp [sSeq, sIf, sNil, sSet, sRet, sRetN, sExpr, sPar, sAsg, sSub, sApp, putCell, bT, bNot, bAnd, bOr, eOp, eV, eC, eIf, eAnd, eOr, eNot, eUn, eBi, eCall, eCall0, eTup, eLst, eCell, eListC, eSl, eChain, eLc, aCons, aNil, oNone, oSome, asI, asB, op1, op2, op3, opA, opLC, viewA, view, allD, mkTup, mkLst, mkCell, mkL, Out.bind, toS, toSB, toSA, toSI, iSeq, seqOf, iRange1, iRange2, rng1, rng2, cmpD, addD, subD, modD, lenD, GF.intD, listD, tupleD, isiD, isiB, ixD, eqD, neD, inLD, notInLD, isND, notND, isNon, negD, revD, revA, slD, max2D, min2D, absD, retS, wipeR, flipB]
def scriptB (d : D) : Bool := match d with
  | .tup l => decide (l.length ≤ 8) && l.all flipB
  | _ => false
theorem are_flips_ok {k : Nat} {d : D} {μ : Mu} (h : dat k d = true) (hk : k ≤ 60) : g_are_flips [.d d, .d (.int 8)] μ = .ok (.d (.bl (scriptB d))) μ := by
  unfold g_are_flips fnD G_are_flips
  have er : rho0 3 [S.d d, .d (.int 8)] = [some (.d d), some (.d (.int 8)), none] := rfl
  rw [er]
  cases d with
  | scr _ => simp [dat] at h
  | fn _ => simp [dat] at h
  | ty _ => simp [dat] at h
  | adr _ => simp [dat] at h
  | dic _ _ => simp [dat] at h
  | tup l =>
    cases k with
    | zero => simp [dat] at h
    | succ k =>
      have h : datA k l = true := by simpa [dat] using h
      have hA := datA_all.mp h
      by_cases c : l.length ≤ 8
      · have c' : (l.length : Int) ≤ 8 := by omega
        have cc : l.length ≤ cap := by unfold cap; omega
        have e := lc_pure (fe := eCall 1 g_is_right_flip (aCons (eV 2) aNil)) (ρ := [some (.d (.tup l)), some (.d (.int 8)), none]) (i := 2) (μ := μ) (fun x => .bl (flipB x)) l (fun x hx => by
          have := @flip_b_ok k x μ (hA x hx) (by omega)
          simp [sSeq, sIf, sNil, sSet, sRet, sRetN, sExpr, sPar, sAsg, sSub, sApp, putCell, bT, bNot, bAnd, bOr, eOp, eV, eC, eIf, eAnd, eOr, eNot, eUn, eBi, eCall, eCall0, eTup, eLst, eCell, eListC, eSl, eChain, eLc, aCons, aNil, oNone, oSome, asI, asB, op1, op2, op3, opA, opLC, viewA, view, allD, mkTup, mkLst, mkCell, mkL, Out.bind, toS, toSB, toSA, toSI, iSeq, seqOf, iRange1, iRange2, rng1, rng2, cmpD, addD, subD, modD, lenD, GF.intD, listD, tupleD, isiD, isiB, ixD, eqD, neD, inLD, notInLD, isND, notND, isNon, negD, revD, revA, slD, max2D, min2D, absD, retS, wipeR, this])
        simp [sSeq, sIf, sNil, sSet, sRet, sRetN, sExpr, sPar, sAsg, sSub, sApp, putCell, bT, bNot, bAnd, bOr, eOp, eV, eC, eIf, eAnd, eOr, eNot, eUn, eBi, eCall, eCall0, eTup, eLst, eCell, eListC, eSl, eChain, eLc, aCons, aNil, oNone, oSome, asI, asB, op1, op2, op3, opA, opLC, viewA, view, allD, mkTup, mkLst, mkCell, mkL, Out.bind, toS, toSB, toSA, toSI, iSeq, seqOf, iRange1, iRange2, rng1, rng2, cmpD, addD, subD, modD, lenD, GF.intD, listD, tupleD, isiD, isiB, ixD, eqD, neD, inLD, notInLD, isND, notND, isNon, negD, revD, revA, slD, max2D, min2D, absD, retS, wipeR, c', cc, allOfD, scriptB, c] at e ⊢
        rw [e]
        simp [viewA, view, allBl_map, retS]
      · have c' : ¬ (l.length : Int) ≤ 8 := by omega
        simp [sSeq, sIf, sNil, sSet, sRet, sRetN, sExpr, sPar, sAsg, sSub, sApp, putCell, bT, bNot, bAnd, bOr, eOp, eV, eC, eIf, eAnd, eOr, eNot, eUn, eBi, eCall, eCall0, eTup, eLst, eCell, eListC, eSl, eChain, eLc, aCons, aNil, oNone, oSome, asI, asB, op1, op2, op3, opA, opLC, viewA, view, allD, mkTup, mkLst, mkCell, mkL, Out.bind, toS, toSB, toSA, toSI, iSeq, seqOf, iRange1, iRange2, rng1, rng2, cmpD, addD, subD, modD, lenD, GF.intD, listD, tupleD, isiD, isiB, ixD, eqD, neD, inLD, notInLD, isND, notND, isNon, negD, revD, revA, slD, max2D, min2D, absD, retS, wipeR, c', scriptB, c]
  | _ => simp [sSeq, sIf, sNil, sSet, sRet, sRetN, sExpr, sPar, sAsg, sSub, sApp, putCell, bT, bNot, bAnd, bOr, eOp, eV, eC, eIf, eAnd, eOr, eNot, eUn, eBi, eCall, eCall0, eTup, eLst, eCell, eListC, eSl, eChain, eLc, aCons, aNil, oNone, oSome, asI, asB, op1, op2, op3, opA, opLC, viewA, view, allD, mkTup, mkLst, mkCell, mkL, Out.bind, toS, toSB, toSA, toSI, iSeq, seqOf, iRange1, iRange2, rng1, rng2, cmpD, addD, subD, modD, lenD, GF.intD, listD, tupleD, isiD, isiB, ixD, eqD, neD, inLD, notInLD, isND, notND, isNon, negD, revD, revA, slD, max2D, min2D, absD, retS, wipeR, scriptB]
theorem flipB_enc {f : Fl} (h : okF f) : flipB (encF f) = true := by
  obtain ⟨b, i⟩ := f
  unfold okF at h
  cases b with
  | true =>
    simp at h
    simp [encF, flipB, isIntB, h]
  | false =>
    simp at h
    have : ¬ (Str.ofString "but" = Str.ofString "top") := by decide
    simp [encF, flipB, isIntB, h, this]
theorem scriptB_enc {l : List Fl} (h : ∀ f ∈ l, okF f) (hl : l.length ≤ 8) : scriptB (encS l) = true := by
  unfold scriptB encS
  have : (l.map encF).all flipB = true := List.all_eq_true.mpr fun x hx => by
    obtain ⟨f, hf, rfl⟩ := List.mem_map.mp hx
    exact flipB_enc (h f hf)
  simp only [List.length_map, this, hl, decide_true, Bool.and_self]
theorem is_bool_ok {b c : Bool} {μ : Mu} : g__law_is_bool [.d (.bl b), .d (.bl c)] μ = .ok (.d (.bl (decide (b = c)))) μ := by
  unfold g__law_is_bool fnD G__law_is_bool
  have er : rho0 2 [S.d (.bl b), .d (.bl c)] = [some (.d (.bl b)), some (.d (.bl c))] := rfl
  rw [er]
  simp [sSeq, sIf, sNil, sSet, sRet, sRetN, sExpr, sPar, sAsg, sSub, sApp, putCell, bT, bNot, bAnd, bOr, eOp, eV, eC, eIf, eAnd, eOr, eNot, eUn, eBi, eCall, eCall0, eTup, eLst, eCell, eListC, eSl, eChain, eLc, aCons, aNil, oNone, oSome, asI, asB, op1, op2, op3, opA, opLC, viewA, view, allD, mkTup, mkLst, mkCell, mkL, Out.bind, toS, toSB, toSA, toSI, iSeq, seqOf, iRange1, iRange2, rng1, rng2, cmpD, addD, subD, modD, lenD, GF.intD, listD, tupleD, isiD, isiB, ixD, eqD, neD, inLD, notInLD, isND, notND, isNon, negD, revD, revA, slD, max2D, min2D, absD, retS, wipeR, shaped_bl, eqv_bl]
theorem right_script_ok {k : Nat} {d : D} {μ : Mu} (h : dat k d = true) (hk : k ≤ 60) : g_is_right_script [.d d] μ = .ok (.d (.bl (scriptB d))) μ := by
  unfold g_is_right_script fnD G_is_right_script
  have er : rho0 1 [S.d d] = [some (.d d)] := rfl
  rw [er]
  have := are_flips_ok (μ := μ) h hk
  simp [sSeq, sIf, sNil, sSet, sRet, sRetN, sExpr, sPar, sAsg, sSub, sApp, putCell, bT, bNot, bAnd, bOr, eOp, eV, eC, eIf, eAnd, eOr, eNot, eUn, eBi, eCall, eCall0, eTup, eLst, eCell, eListC, eSl, eChain, eLc, aCons, aNil, oNone, oSome, asI, asB, op1, op2, op3, opA, opLC, viewA, view, allD, mkTup, mkLst, mkCell, mkL, Out.bind, toS, toSB, toSA, toSI, iSeq, seqOf, iRange1, iRange2, rng1, rng2, cmpD, addD, subD, modD, lenD, GF.intD, listD, tupleD, isiD, isiB, ixD, eqD, neD, inLD, notInLD, isND, notND, isNon, negD, revD, revA, slD, max2D, min2D, absD, retS, wipeR, this]
theorem need_script_ok {k : Nat} {d : D} {μ : Mu} (h : dat k d = true) (hk : k ≤ 60) : g_need_script [.d d] μ = if scriptB d = true then .ok (.d .non) μ else .exc ⟨"InvalidScript", []⟩ μ := by
  unfold g_need_script fnD G_need_script
  have er : rho0 1 [S.d d] = [some (.d d)] := rfl
  rw [er]
  have e := right_script_ok (μ := μ) h hk
  cases c : scriptB d with
  | true => rw [c] at e; simp [sSeq, sIf, sNil, sSet, sRet, sRetN, sExpr, sPar, sAsg, sSub, sApp, putCell, bT, bNot, bAnd, bOr, eOp, eV, eC, eIf, eAnd, eOr, eNot, eUn, eBi, eCall, eCall0, eTup, eLst, eCell, eListC, eSl, eChain, eLc, aCons, aNil, oNone, oSome, asI, asB, op1, op2, op3, opA, opLC, viewA, view, allD, mkTup, mkLst, mkCell, mkL, Out.bind, toS, toSB, toSA, toSI, iSeq, seqOf, iRange1, iRange2, rng1, rng2, cmpD, addD, subD, modD, lenD, GF.intD, listD, tupleD, isiD, isiB, ixD, eqD, neD, inLD, notInLD, isND, notND, isNon, negD, revD, revA, slD, max2D, min2D, absD, retS, wipeR, e, sRaise]
  | false => rw [c] at e; simp [sSeq, sIf, sNil, sSet, sRet, sRetN, sExpr, sPar, sAsg, sSub, sApp, putCell, bT, bNot, bAnd, bOr, eOp, eV, eC, eIf, eAnd, eOr, eNot, eUn, eBi, eCall, eCall0, eTup, eLst, eCell, eListC, eSl, eChain, eLc, aCons, aNil, oNone, oSome, asI, asB, op1, op2, op3, opA, opLC, viewA, view, allD, mkTup, mkLst, mkCell, mkL, Out.bind, toS, toSB, toSA, toSI, iSeq, seqOf, iRange1, iRange2, rng1, rng2, cmpD, addD, subD, modD, lenD, GF.intD, listD, tupleD, isiD, isiB, ixD, eqD, neD, inLD, notInLD, isND, notND, isNon, negD, revD, revA, slD, max2D, min2D, absD, retS, wipeR, e, sRaise]
/-! ### one round -/
theorem top_eq (b : Bool) : (eqvD (.str (if b = true then "top" else "but")) (.str "top")) = b := by
  cases b <;> decide +kernel
theorem so_fl (b : Bool) : SeqAt.shaped (toPy (.str (if b = true then "top" else "but"))) = true := by
  cases b <;> decide +kernel
theorem block_ok {f : Fl} {n : Int} {μ : Mu} : g_block_of [.d (encF f), .d (.int n)] μ = .ok (.d (.int (blkZ f n))) μ := by
  unfold g_block_of fnD G_block_of
  have er : rho0 2 [S.d (encF f), .d (.int n)] = [some (.d (encF f)), some (.d (.int n))] := rfl
  rw [er]
  unfold encF blkZ
  have i1 : ∀ a b : D, atI [a, b] 1 = some b := fun a b => by simp [atI, ixN]
  have ne : ¬ (Str.ofString "but" = Str.ofString "top") := by decide
  obtain ⟨b, k⟩ := f
  cases b <;> simp [sSeq, sIf, sNil, sSet, sRet, sRetN, sExpr, sPar, sAsg, sSub, sApp, putCell, bT, bNot, bAnd, bOr, eOp, eV, eC, eIf, eAnd, eOr, eNot, eUn, eBi, eCall, eCall0, eTup, eLst, eCell, eListC, eSl, eChain, eLc, aCons, aNil, oNone, oSome, asI, asB, op1, op2, op3, opA, opLC, viewA, view, allD, mkTup, mkLst, mkCell, mkL, Out.bind, toS, toSB, toSA, toSI, iSeq, seqOf, iRange1, iRange2, rng1, rng2, cmpD, addD, subD, modD, lenD, GF.intD, listD, tupleD, isiD, isiB, ixD, eqD, neD, inLD, notInLD, isND, notND, isNon, negD, revD, revA, slD, max2D, min2D, absD, retS, wipeR, atI_zero, i1, so_top, so_but, eqv_str, ne]
theorem once_loop {n : Int} {sd : D} {μ : Mu} : ∀ (s : List Fl) {p : Int} {o : Bool} {a b : Option S}, ∃ a' b', forD (gN 4) glb1_once (s.map encF) [some (.d sd), some (.d (.int n)), some (.d (.int p)), some (.d (.bl o)), a, b] μ =
    .nx [some (.d sd), some (.d (.int n)), some (.d (.int (runZ n s (p, o)).1)), some (.d (.bl (runZ n s (p, o)).2)), a', b'] μ
  | [], p, o, a, b => ⟨a, b, rfl⟩
  | f :: s, p, o, a, b => by
    obtain ⟨a', b', e⟩ := once_loop (n := n) (sd := sd) (μ := μ) s (p := (stpZ n f (p, o)).1) (o := (stpZ n f (p, o)).2) (a := some (.d (encF f))) (b := some (.d (.int (blkZ f n))))
    refine ⟨a', b', ?_⟩
    have h : glb1_once [some (.d sd), some (.d (.int n)), some (.d (.int p)), some (.d (.bl o)), some (.d (encF f)), b] μ = .nx [some (.d sd), some (.d (.int n)), some (.d (.int (stpZ n f (p, o)).1)), some (.d (.bl (stpZ n f (p, o)).2)), some (.d (encF f)), some (.d (.int (blkZ f n)))] μ := by
      unfold glb1_once
      have := block_ok (f := f) (n := n) (μ := μ)
      by_cases c : p < blkZ f n
      · simp [sSeq, sIf, sNil, sSet, sRet, sRetN, sExpr, sPar, sAsg, sSub, sApp, putCell, bT, bNot, bAnd, bOr, eOp, eV, eC, eIf, eAnd, eOr, eNot, eUn, eBi, eCall, eCall0, eTup, eLst, eCell, eListC, eSl, eChain, eLc, aCons, aNil, oNone, oSome, asI, asB, op1, op2, op3, opA, opLC, viewA, view, allD, mkTup, mkLst, mkCell, mkL, Out.bind, toS, toSB, toSA, toSI, iSeq, seqOf, iRange1, iRange2, rng1, rng2, cmpD, addD, subD, modD, lenD, GF.intD, listD, tupleD, isiD, isiB, ixD, eqD, neD, inLD, notInLD, isND, notND, isNon, negD, revD, revA, slD, max2D, min2D, absD, retS, wipeR, this, c, stpZ]
      · simp [sSeq, sIf, sNil, sSet, sRet, sRetN, sExpr, sPar, sAsg, sSub, sApp, putCell, bT, bNot, bAnd, bOr, eOp, eV, eC, eIf, eAnd, eOr, eNot, eUn, eBi, eCall, eCall0, eTup, eLst, eCell, eListC, eSl, eChain, eLc, aCons, aNil, oNone, oSome, asI, asB, op1, op2, op3, opA, opLC, viewA, view, allD, mkTup, mkLst, mkCell, mkL, Out.bind, toS, toSB, toSA, toSI, iSeq, seqOf, iRange1, iRange2, rng1, rng2, cmpD, addD, subD, modD, lenD, GF.intD, listD, tupleD, isiD, isiB, ixD, eqD, neD, inLD, notInLD, isND, notND, isNon, negD, revD, revA, slD, max2D, min2D, absD, retS, wipeR, this, c, stpZ]
    show forD (gN 4) glb1_once (encF f :: s.map encF) _ μ = _
    unfold forD
    simp only [gN, List.set, h]
    exact e
theorem once_ok {s : List Fl} {n p : Int} {μ : Mu} : g_once [.d (encS s), .d (.int n), .d (.int p)] μ = .ok (.d (.tup [.int (onceZ s n p).1, .bl (onceZ s n p).2])) μ := by
  unfold g_once fnD G_once
  have er : rho0 6 [S.d (encS s), .d (.int n), .d (.int p)] = [some (.d (encS s)), some (.d (.int n)), some (.d (.int p)), none, none, none] := rfl
  rw [er]
  obtain ⟨a', b', e⟩ := once_loop (n := n) (sd := encS s) (μ := μ) s (p := p) (o := false) (a := none) (b := none)
  have hs : iSeq (eV 0) [some (.d (encS s)), some (.d (.int n)), some (.d (.int p)), some (.d (.bl false)), none, none] μ = .ok (s.map encF) μ := rfl
  simp [sSeq, sSet, eC, Out.bind, toS, sFor, hs, toSI, e]
  simp [sSeq, sIf, sNil, sSet, sRet, sRetN, sExpr, sPar, sAsg, sSub, sApp, putCell, bT, bNot, bAnd, bOr, eOp, eV, eC, eIf, eAnd, eOr, eNot, eUn, eBi, eCall, eCall0, eTup, eLst, eCell, eListC, eSl, eChain, eLc, aCons, aNil, oNone, oSome, asI, asB, op1, op2, op3, opA, opLC, viewA, view, allD, mkTup, mkLst, mkCell, mkL, Out.bind, toS, toSB, toSA, toSI, iSeq, seqOf, iRange1, iRange2, rng1, rng2, cmpD, addD, subD, modD, lenD, GF.intD, listD, tupleD, isiD, isiB, ixD, eqD, neD, inLD, notInLD, isND, notND, isNon, negD, revD, revA, slD, max2D, min2D, absD, retS, wipeR, cap2, onceZ]

/-! ### stacks -/
def encP (x : Pc) : D := .tup [.int x.1, .bl x.2]
theorem lc_pairs {fe : FE} {ρ : Rho} {i j : Nat} {μ : Mu} (g : Pc → D) : ∀ (l : List Pc), (∀ x ∈ l, fe ((ρ.set i (some (.d (.int x.1)))).set j (some (.d (.bl x.2)))) μ = .ok (.d (g x)) μ) → lcD (gT 2 (gsC (gN i) (gsC (gN j) gsN))) bYes fe ρ (l.map encP) μ = .ok (l.map g) μ
  | [], _ => rfl
  | x :: l, h => by
    have h1 := h x List.mem_cons_self
    have h2 := lc_pairs (fe := fe) (ρ := ρ) (i := i) (j := j) (μ := μ) g l fun y hy => h y (List.mem_cons_of_mem _ hy)
    have e : gT 2 (gsC (gN i) (gsC (gN j) gsN)) (encP x) ρ = some ((ρ.set i (some (.d (.int x.1)))).set j (some (.d (.bl x.2)))) := rfl
    rw [List.map_cons]
    unfold lcD
    rw [e]
    simp [bYes, h1, h2]
theorem flipped_ok {l : List Pc} {f : Fl} {μ : Mu} (hf : okF f) (h6 : 6 ≤ l.length) (hl : l.length ≤ 1000) : g__law_flipped [.d (.lst (l.map encP)), .d (encF f)] μ = .ok (.d (.lst ((flipL l f).map encP))) μ := by
  unfold g__law_flipped fnD G__law_flipped
  have er : rho0 5 [S.d (.lst (l.map encP)), .d (encF f)] = [some (.d (.lst (l.map encP))), some (.d (encF f)), none, none, none] := rfl
  rw [er]
  obtain ⟨b0, b1⟩ := blk_bd hf (n := l.length) (by omega)
  obtain ⟨b, hb⟩ : ∃ b : Nat, b = (blkZ f l.length).toNat := ⟨_, rfl⟩
  have i1 : ∀ a b : D, atI [a, b] 1 = some b := fun a b => by simp [atI, ixN]
  have ne : ¬ (Str.ofString "but" = Str.ofString "top") := by decide
  have hset : (eIf (bT (eOp eqD (eOp ixD (eV 1) (eC (.int 0))) (eC (.str "top")))) (eOp ixD (eV 1) (eC (.int 1))) (eOp subD (eBi lenD (aCons (eV 0) aNil)) (eOp ixD (eV 1) (eC (.int 1))))) [some (.d (.lst (l.map encP))), some (.d (encF f)), none, none, none] μ = .ok (.d (.int (blkZ f l.length))) μ := by
    obtain ⟨t, k⟩ := f
    unfold encF blkZ
    cases t <;> simp [sSeq, sIf, sNil, sSet, sRet, sRetN, sExpr, sPar, sAsg, sSub, sApp, putCell, bT, bNot, bAnd, bOr, eOp, eV, eC, eIf, eAnd, eOr, eNot, eUn, eBi, eCall, eCall0, eTup, eLst, eCell, eListC, eSl, eChain, eLc, aCons, aNil, oNone, oSome, asI, asB, op1, op2, op3, opA, opLC, viewA, view, allD, mkTup, mkLst, mkCell, mkL, Out.bind, toS, toSB, toSA, toSI, iSeq, seqOf, iRange1, iRange2, rng1, rng2, cmpD, addD, subD, modD, lenD, GF.intD, listD, tupleD, isiD, isiB, ixD, eqD, neD, inLD, notInLD, isND, notND, isNon, negD, revD, revA, slD, max2D, min2D, absD, retS, wipeR, atI_zero, i1, so_top, so_but, eqv_str, ne]
  have hc1 : cutL (l.map encP) none (some (blkZ f l.length)) = (l.take b).map encP := by rw [cut_to b0, ← hb, List.map_take]
  have hc2 : cutL (l.map encP) (some (blkZ f l.length)) none = (l.drop b).map encP := by rw [cut_from b0, ← hb, List.map_drop]
  have hlc := lc_pairs (fe := eTup (aCons (eV 3) (aCons (eNot (eV 4)) aNil))) (ρ := [some (.d (.lst (l.map encP))), some (.d (encF f)), some (.d (.int (blkZ f l.length))), none, none]) (i := 3) (j := 4) (μ := μ) (fun x => encP (turnP x)) (l.take b) (fun x _ => by
    simp [sSeq, sIf, sNil, sSet, sRet, sRetN, sExpr, sPar, sAsg, sSub, sApp, putCell, bT, bNot, bAnd, bOr, eOp, eV, eC, eIf, eAnd, eOr, eNot, eUn, eBi, eCall, eCall0, eTup, eLst, eCell, eListC, eSl, eChain, eLc, aCons, aNil, oNone, oSome, asI, asB, op1, op2, op3, opA, opLC, viewA, view, allD, mkTup, mkLst, mkCell, mkL, Out.bind, toS, toSB, toSA, toSI, iSeq, seqOf, iRange1, iRange2, rng1, rng2, cmpD, addD, subD, modD, lenD, GF.intD, listD, tupleD, isiD, isiB, ixD, eqD, neD, inLD, notInLD, isND, notND, isNon, negD, revD, revA, slD, max2D, min2D, absD, retS, wipeR, cap2, encP, turnP])
  have e2 : (l.take b).map (fun x => encP (turnP x)) = ((l.take b).map turnP).map encP := by rw [List.map_map]; rfl
  have hcap : ((l.take b).map encP).length ≤ cap := by rw [List.length_map, List.length_take]; unfold cap; omega
  have hadd : addD (.lst (((l.take b).map turnP).map encP).reverse) (.lst ((l.drop b).map encP)) = some (.lst ((flipL l f).map encP)) := by
    rw [addD_lst (by simp; unfold cap; omega)]
    unfold flipL
    rw [← hb, List.map_append, List.map_reverse]
  simp only [sSeq, sSet, hset, toS, Out.bind, List.set]
  rw [e2] at hlc
  generalize hA : (l.take b).map encP = A at *
  generalize hB : (l.drop b).map encP = B at *
  generalize hC : ((l.take b).map turnP).map encP = C at *
  generalize hL : l.map encP = L at *
  generalize hR : (flipL l f).map encP = R at *
  generalize hZ : blkZ f l.length = Z at *
  simp [sSeq, sIf, sNil, sSet, sRet, sRetN, sExpr, sPar, sAsg, sSub, sApp, putCell, bT, bNot, bAnd, bOr, eOp, eV, eC, eIf, eAnd, eOr, eNot, eUn, eBi, eCall, eCall0, eTup, eLst, eCell, eListC, eSl, eChain, eLc, aCons, aNil, oNone, oSome, asI, asB, op1, op2, op3, opA, opLC, viewA, view, allD, mkTup, mkLst, mkCell, mkL, Out.bind, toS, toSB, toSA, toSI, iSeq, seqOf, iRange1, iRange2, rng1, rng2, cmpD, addD_int, subD, modD, lenD, GF.intD, listD, tupleD, isiD, ixD, eqD, neD, inLD, notInLD, isND, notND, isNon, negD, revD, revA, slD, max2D, min2D, absD, retS, wipeR, hc1, hc2, hcap, hlc, hadd]
theorem lying_loop {n : Int} {sd : D} {μ : Mu} : ∀ (s : List Fl) {l : List Pc} {a b : Option S}, (∀ f ∈ s, okF f) → 6 ≤ l.length → l.length ≤ 1000 → ∃ b', forD (gN 4) glb1__law_lying (s.map encF) [some (.d sd), some (.d (.int n)), some (.d (.lst (l.map encP))), a, b] μ =
    .nx [some (.d sd), some (.d (.int n)), some (.d (.lst ((runL s l).map encP))), a, b'] μ
  | [], l, a, b, _, _, _ => ⟨b, rfl⟩
  | f :: s, l, a, b, hok, h6, hl => by
    obtain ⟨b', e⟩ := lying_loop (n := n) (sd := sd) (μ := μ) s (l := flipL l f) (a := a) (b := some (.d (encF f))) (fun g hg => hok g (List.mem_cons_of_mem _ hg)) (by rw [flipL_len]; exact h6) (by rw [flipL_len]; exact hl)
    refine ⟨b', ?_⟩
    have h : glb1__law_lying [some (.d sd), some (.d (.int n)), some (.d (.lst (l.map encP))), a, some (.d (encF f))] μ = .nx [some (.d sd), some (.d (.int n)), some (.d (.lst ((flipL l f).map encP))), a, some (.d (encF f))] μ := by
      unfold glb1__law_lying
      have := flipped_ok (μ := μ) (hok f List.mem_cons_self) h6 hl
      generalize l.map encP = L at *
      generalize (flipL l f).map encP = R at *
      simp [sSeq, sIf, sNil, sSet, sRet, sRetN, sExpr, sPar, sAsg, sSub, sApp, putCell, bT, bNot, bAnd, bOr, eOp, eV, eC, eIf, eAnd, eOr, eNot, eUn, eBi, eCall, eCall0, eTup, eLst, eCell, eListC, eSl, eChain, eLc, aCons, aNil, oNone, oSome, asI, asB, op1, op2, op3, opA, opLC, viewA, view, allD, mkTup, mkLst, mkCell, mkL, Out.bind, toS, toSB, toSA, toSI, iSeq, seqOf, iRange1, iRange2, rng1, rng2, cmpD, addD, subD, modD, lenD, GF.intD, listD, tupleD, isiD, isiB, ixD, eqD, neD, inLD, notInLD, isND, notND, isNon, negD, revD, revA, slD, max2D, min2D, absD, retS, wipeR, this]
    show forD (gN 4) glb1__law_lying (encF f :: s.map encF) _ μ = _
    unfold forD
    simp only [gN, List.set, h]
    exact e
theorem newL_up (n : Nat) : (upD 0 n).map (fun x => D.tup [x, .bl false]) = (newL n).map encP := by
  have key : ∀ (n : Nat) (lo : Int), (upD lo n).map (fun x => D.tup [x, .bl false]) = (List.range n).map fun i : Nat => encP (lo + i, false) := by
    intro n
    induction n with
    | zero => intro lo; rfl
    | succ n ih =>
      intro lo
      rw [List.range_succ_eq_map, List.map_cons, List.map_map]
      show D.tup [.int lo, .bl false] :: (upD (lo + 1) n).map _ = _
      rw [ih (lo + 1)]
      congr 1
      · simp [encP]
      · apply List.map_congr_left
        intro i _
        show encP (lo + 1 + i, false) = encP (lo + ((i + 1 : Nat) : Int), false)
        congr 2
        omega
  rw [key n 0]
  unfold newL
  rw [List.map_map]
  apply List.map_congr_left
  intro i _
  show encP (0 + (i : Int), false) = encP ((i : Int), false)
  rw [Int.zero_add]
end GF

set_option maxHeartbeats 2000000
/-! Stacks behind one round. -/
namespace GF
open PySem PySem.Spec PyProof.Rows L2
theorem rng1_ok {i : Int} {μ : Mu} (hb : bigR i) : rng1 [.d (.int i)] μ = .ok (upD 0 i.toNat) μ := if_pos hb
theorem lying_start {d : D} {n : Nat} {μ : Mu} (hn : n ≤ 1000) : eLc (iRange1 (aCons (eV 1) aNil)) (gN 3) bYes (eTup (aCons (eV 3) (aCons (eC (.bl false)) aNil))) [3] [some (.d d), some (.d (.int n)), none, none, none] μ = .ok (.d (.lst ((newL n).map encP))) μ := by
  have hb : bigR n := by unfold bigR; omega
  have e := lc_pure (fe := eTup (aCons (eV 3) (aCons (eC (.bl false)) aNil))) (ρ := wipeR [some (.d d), some (.d (.int n)), none, none, none] [3]) (i := 3) (μ := μ) (fun x => .tup [x, .bl false]) (upD 0 n) (fun x _ => by
    simp [sSeq, sIf, sNil, sSet, sRet, sRetN, sExpr, sPar, sAsg, sSub, sApp, putCell, bT, bNot, bAnd, bOr, eOp, eV, eC, eIf, eAnd, eOr, eNot, eUn, eBi, eCall, eCall0, eTup, eLst, eCell, eListC, eSl, eChain, eLc, aCons, aNil, oNone, oSome, asI, asB, op1, op2, op3, opA, opLC, viewA, view, allD, mkTup, mkLst, mkCell, mkL, Out.bind, toS, toSB, toSA, toSI, iSeq, seqOf, iRange1, iRange2, rng1, rng2, cmpD, addD, subD, modD, lenD, GF.intD, listD, tupleD, isiD, isiB, ixD, eqD, neD, inLD, notInLD, isND, notND, isNon, negD, revD, revA, slD, max2D, min2D, absD, retS, wipeR, cap2])
  rw [newL_up] at e
  have hc : (upD 0 n).length ≤ cap := by rw [upD_len]; unfold cap; omega
  have h0 : iRange1 (aCons (eV 1) aNil) [some (.d d), some (.d (.int n)), none, none, none] μ = .ok (upD 0 n) μ := by
    have e : aCons (eV 1) aNil [some (.d d), some (.d (.int n)), none, none, none] μ = .ok [.d (.int n)] μ := rfl
    unfold iRange1
    rw [e, bind_ok, rng1_ok hb, Int.toNat_natCast]
  unfold eLc
  rw [h0, bind_ok]
  simp only [if_pos hc]
  rw [e, bind_ok]
  rfl
theorem sSeq_nx {f g : FS} {ρ ρ' : Rho} {μ μ' : Mu} (h : f ρ μ = .nx ρ' μ') : sSeq f g ρ μ = g ρ' μ' := by
  unfold sSeq
  rw [h]
theorem sSet_ok {i : Nat} {f : FE} {ρ : Rho} {μ μ' : Mu} {s : S} (h : f ρ μ = .ok s μ') : sSet i f ρ μ = .nx (ρ.set i (some s)) μ' := by
  unfold sSet
  rw [h]
  rfl
theorem sFor_ok {fi : FI} {t : D → Rho → Option Rho} {b : FS} {ρ : Rho} {μ μ' : Mu} {l : List D} (h : fi ρ μ = .ok l μ') : sFor fi t b ρ μ = forD t b l ρ μ' := by
  unfold sFor
  rw [h]
  rfl
theorem fnD_rt {N : Nat} {b : FS} {ss : List S} {μ μ' : Mu} {s : S} (h : b (rho0 N ss) μ = .rt s μ') : fnD N b ss μ = retS μ.length s μ' := by
  unfold fnD
  rw [h]
theorem lying_ok {s : List Fl} {n : Nat} {μ : Mu} (hs : ∀ f ∈ s, okF f) (h6 : 6 ≤ n) (hn : n ≤ 1000) : g__law_lying [.d (encS s), .d (.int n)] μ = .ok (.d (.lst ((lyingL s n).map encP))) μ := by
  have hlc := lying_start (d := encS s) (n := n) (μ := μ) hn
  obtain ⟨b', e⟩ := lying_loop (n := n) (sd := encS s) (μ := μ) s (l := newL n) (a := none) (b := none) hs (by rw [newL_len]; exact h6) (by rw [newL_len]; exact hn)
  have hi : iSeq (eV 0) [some (.d (encS s)), some (.d (.int n)), some (.d (.lst ((newL n).map encP))), none, none] μ = .ok (s.map encF) μ := rfl
  have hb : G__law_lying [some (.d (encS s)), some (.d (.int n)), none, none, none] μ = .rt (.d (.lst ((lyingL s n).map encP))) μ := by
    unfold G__law_lying
    rw [sSeq_nx (sSet_ok hlc)]
    simp only [List.set]
    rw [sSeq_nx ((sFor_ok hi).trans e)]
    rfl
  unfold g__law_lying
  rw [fnD_rt (show G__law_lying (rho0 5 [S.d (encS s), .d (.int n)]) μ = _ from hb)]
  unfold retS
  rw [List.take_length]
end GF

set_option maxHeartbeats 2000000
/-! Stacks compared. -/
namespace GF
open PySem PySem.Spec PyProof.Rows L2
theorem encP_dat (x : Pc) : dat 1 (encP x) = true := by simp [encP, dat, datA]
theorem encL_dat (l : List Pc) : dat 2 (.lst (l.map encP)) = true := by
  rw [dat, datA_all]
  intro d hd
  obtain ⟨x, _, rfl⟩ := List.mem_map.mp hd
  exact encP_dat x
theorem eqv_encP (x y : Pc) : PyData.eqv (toPy (encP x)) (toPy (encP y)) = decide (x = y) := by
  obtain ⟨a, b⟩ := x
  obtain ⟨c, d⟩ := y
  simp only [encP, toPy, toPyA, PyData.eqv, PyData.eqvAll]
  rw [Bool.eq_iff_iff]
  simp
theorem eqv_all : ∀ (l m : List Pc), PyData.eqvAll (toPyA (l.map encP)) (toPyA (m.map encP)) = decide (l = m)
  | [], [] => by simp [toPyA, PyData.eqvAll]
  | [], _ :: _ => by simp [toPyA, PyData.eqvAll]
  | _ :: _, [] => by simp [toPyA, PyData.eqvAll]
  | x :: l, y :: m => by
    rw [List.map_cons, List.map_cons, toPyA, toPyA, PyData.eqvAll, eqv_encP, eqv_all l m]
    rw [Bool.eq_iff_iff]
    simp
theorem eqv_encL (l m : List Pc) : eqvD (.lst (l.map encP)) (.lst (m.map encP)) = decide (l = m) := by
  unfold eqvD
  rw [toPy, toPy, PyData.eqv]
  exact eqv_all l m
end GF

set_option maxHeartbeats 2000000
/-! The first of some ints. -/
namespace GF
def upZ (lo : Int) : Nat → List Int
  | 0 => []
  | k + 1 => lo :: upZ (lo + 1) k
theorem upD_Z : ∀ (k : Nat) (lo : Int), upD lo k = (upZ lo k).map .int
  | 0, _ => rfl
  | k + 1, lo => by
    show D.int lo :: upD (lo + 1) k = _
    rw [upD_Z k (lo + 1)]; rfl
def findZ (p : Int → Bool) : List Int → Option Int
  | [] => none
  | n :: l => if p n = true then some n else findZ p l
theorem findZ_app (p : Int → Bool) : ∀ l m : List Int, findZ p (l ++ m) = match findZ p l with
    | some n => some n
    | none => findZ p m
  | [], _ => rfl
  | n :: l, m => by
    show (if p n = true then some n else findZ p (l ++ m)) = _
    rw [findZ_app p l m]
    show _ = match (if p n = true then some n else findZ p l) with
      | some n => some n
      | none => findZ p m
    by_cases c : p n = true
    · rw [if_pos c, if_pos c]
    · rw [if_neg c, if_neg c]
theorem findZ_none {p : Int → Bool} : ∀ {l : List Int}, findZ p l = none → ∀ n ∈ l, p n = false
  | n :: l, h, m, hm => by
    unfold findZ at h
    by_cases c : p n = true
    · rw [if_pos c] at h; cases h
    · rw [if_neg c] at h
      rcases List.mem_cons.mp hm with z | z
      · rw [z]; simpa using c
      · exact findZ_none h m z
theorem findZ_of_none {p : Int → Bool} : ∀ {l : List Int}, (∀ n ∈ l, p n = false) → findZ p l = none
  | [], _ => rfl
  | n :: l, h => by
    unfold findZ
    rw [if_neg (by rw [h n List.mem_cons_self]; exact Bool.false_ne_true)]
    exact findZ_of_none fun m hm => h m (List.mem_cons_of_mem _ hm)
theorem upZ_mem : ∀ {k : Nat} {lo n : Int}, n ∈ upZ lo k ↔ lo ≤ n ∧ n < lo + k
  | 0, lo, n => by
    constructor
    · intro h; cases h
    · intro h; omega
  | k + 1, lo, n => by
    unfold upZ
    rw [List.mem_cons, upZ_mem (k := k)]
    omega
theorem findZ_least {p : Int → Bool} : ∀ {k : Nat} {lo n : Int}, findZ p (upZ lo k) = some n → (lo ≤ n ∧ n < lo + k) ∧ p n = true ∧ ∀ m, lo ≤ m → m < n → p m = false
  | 0, lo, n, h => by cases h
  | k + 1, lo, n, h => by
    unfold upZ findZ at h
    by_cases c : p lo = true
    · rw [if_pos c] at h
      cases h
      exact ⟨by omega, c, fun m h1 h2 => by omega⟩
    · rw [if_neg c] at h
      obtain ⟨h1, h2, h3⟩ := findZ_least h
      refine ⟨by omega, h2, fun m m0 m1 => ?_⟩
      by_cases e : m = lo
      · rw [e]; simpa using c
      · exact h3 m (by omega) m1
/-- two ranges, each long enough to tell all, find the same -/
theorem findZ_same {p : Int → Bool} {lo : Int} {j k : Nat} (hj : (∀ n, lo ≤ n → n < lo + j → p n = false) → ∀ n, lo ≤ n → p n = false) (hk : (∀ n, lo ≤ n → n < lo + k → p n = false) → ∀ n, lo ≤ n → p n = false) : findZ p (upZ lo j) = findZ p (upZ lo k) := by
  have all : ∀ {i : Nat}, findZ p (upZ lo i) = none → ∀ n, lo ≤ n → n < lo + i → p n = false := fun {i} h n h1 h2 => findZ_none h n (upZ_mem.mpr ⟨h1, h2⟩)
  cases e1 : findZ p (upZ lo j) with
  | none =>
    have q := hj (all e1)
    exact (findZ_of_none fun n hn => q n (upZ_mem.mp hn).1).symm
  | some n =>
    cases e2 : findZ p (upZ lo k) with
    | none =>
      have q := hk (all e2)
      obtain ⟨h1, h2, _⟩ := findZ_least e1
      rw [q n h1.1] at h2; cases h2
    | some m =>
      obtain ⟨a1, a2, a3⟩ := findZ_least e1
      obtain ⟨b1, b2, b3⟩ := findZ_least e2
      have : n = m := by
        rcases Int.lt_trichotomy n m with z | z | z
        · have := b3 n a1.1 z; rw [a2] at this; cases this
        · exact z
        · have := a3 m b1.1 z; rw [b2] at this; cases this
      rw [this]
end GF

set_option maxHeartbeats 2000000
/-! A tuple that the top of a module holds; a comprehension with two clauses. -/
namespace GF
open PySem PySem.Spec PyProof.Rows L2
mutual
def keptB (K : PySem.W.Frag) : D → Value → Bool
  | .non, u => (match u with
    | .none => true
    | _ => false)
  | .int i, u => (match u with
    | .int j _ => decide (i = j)
    | _ => false)
  | .str x, u => (match u with
    | .str y _ => decide (x = y)
    | _ => false)
  | .tup l, u => (match u with
    | .ref a => (match K.lookup a with
      | some o => (match o.cls with
        | .type c => decide (c = "tuple")
        | _ => false) && (match o.data with
        | .seq its _ => decide (its.size ≤ sizeLine) && keptA K l its.toList
        | _ => false)
      | none => false)
    | _ => false)
  | _, _ => false
def keptA (K : PySem.W.Frag) : List D → List Value → Bool
  | [], [] => true
  | d :: l, u :: us => keptB K d u && keptA K l us
  | _, _ => false
end
mutual
theorem kept_ok {K : PySem.W.Frag} {mg : Str → Option Value} : ∀ {d : D} {u : Value}, keptB K d u = true → ∃ v, RelV v u ∧ ∀ F, Is K mg F d v
  | .non, u, h => by
    unfold keptB at h
    split at h
    · exact ⟨.non, rfl, fun _ => .non⟩
    · cases h
  | .int i, u, h => by
    unfold keptB at h
    split at h
    · have e := of_decide_eq_true h
      subst e
      exact ⟨.int i, ⟨_, rfl⟩, fun _ => .int i⟩
    · cases h
  | .str x, u, h => by
    unfold keptB at h
    split at h
    · have e := of_decide_eq_true h
      subst e
      exact ⟨.str x, ⟨_, rfl⟩, fun _ => .str x⟩
    · cases h
  | .tup l, u, h => by
    unfold keptB at h
    split at h
    · rename_i a
      split at h
      · rename_i o ho
        rw [Bool.and_eq_true] at h
        obtain ⟨h1, h2⟩ := h
        split at h1
        · rename_i c hc
          split at h2
          · rename_i its n hd
            rw [Bool.and_eq_true] at h2
            obtain ⟨h3, h4⟩ := h2
            obtain ⟨vs, hv, hi⟩ := keptA_ok (mg := mg) h4
            exact ⟨.ref a, rfl, fun F => .tup (.inr ⟨o, its, n, ho, by rw [hc, of_decide_eq_true h1], hd, of_decide_eq_true h3, hv⟩) (hi F)⟩
          · cases h2
        · cases h1
      · cases h
    · cases h
  | .bl _, u, h => by unfold keptB at h; cases h
  | .lst _, u, h => by unfold keptB at h; cases h
  | .scr _, u, h => by unfold keptB at h; cases h
  | .fn _, u, h => by unfold keptB at h; cases h
  | .ty _, u, h => by unfold keptB at h; cases h
  | .adr _, u, h => by unfold keptB at h; cases h
  | .dic _ _, u, h => by unfold keptB at h; cases h
theorem keptA_ok {K : PySem.W.Frag} {mg : Str → Option Value} : ∀ {l : List D} {us : List Value}, keptA K l us = true → ∃ vs, Vals vs us ∧ ∀ F, IsA K mg F l vs
  | [], [], h => ⟨[], .nil, fun _ => .nil⟩
  | d :: l, u :: us, h => by
    unfold keptA at h
    rw [Bool.and_eq_true] at h
    obtain ⟨v, h1, h2⟩ := kept_ok (mg := mg) h.1
    obtain ⟨vs, h3, h4⟩ := keptA_ok (mg := mg) h.2
    exact ⟨v :: vs, .cons h1 h3, fun F => .cons (h2 F) (h4 F)⟩
  | [], _ :: _, h => by unfold keptA at h; cases h
  | _ :: _, [], h => by unfold keptA at h; cases h
end
def keptN (K : PySem.W.Frag) (x : Str) (d : D) : Bool := match PySem.W.nsIn K mainGlobals x with
  | some (some u) => keptB K d u
  | _ => false
structure KepB (K : PySem.W.Frag) (mg : Str → Option Value) (x : Str) (d : D) : Prop where
  ex : ∃ u v, mg x = some u ∧ RelV v u ∧ ∀ F, Is K mg F d v
theorem kepB_of {K : PySem.W.Frag} {h : Heap} {mg : Str → Option Value} {x : Str} {d : D} (X : K.In h) (G : h.Ns mainGlobals mg) (e : keptN K x d = true) : KepB K mg x d := by
  unfold keptN at e
  split at e
  · rename_i u hu
    obtain ⟨v, h1, h2⟩ := kept_ok (mg := mg) e
    exact ⟨u, v, PySem.W.mg_of X G hu, h1, h2⟩
  · cases e
section
variable {X : Cx} {W : WX} {pos : Pos}
theorem de_kept {x : Str} {d : D} (h : KepB X.K X.mg x d) (hg : Gl X x := by rfl) (hd : (x == ("__debug__" : Str)) = false := by decide) : DE X W (.Name x pos) (eC d) := by
  obtain ⟨u, v, h1, h2, h3⟩ := h.ex
  exact de_glob h1 h2 h3 hg hd
end

/-! ### a comprehension with two clauses -/
def Out.bnd {α β : Type} (o : Out α) (k : α → Mu → Out β) : Out β := match o with
  | .ok a m => k a m
  | _ => .stk
theorem bnd_assoc {α β γ : Type} (o : Out α) (f : α → Mu → Out β) (g : β → Mu → Out γ) : (o.bnd f).bnd g = o.bnd fun a m => (f a m).bnd g := by
  cases o <;> rfl
theorem bnd_ok {α β : Type} (a : α) (m : Mu) (k : α → Mu → Out β) : (Out.ok a m).bnd k = k a m := rfl
def mkT (ys l : List D) (μ : Mu) : Out S := if (ys ++ l).length ≤ cap then .ok (.d (.lst (ys ++ l))) μ else .stk
def lc2D (t : D → Rho → Option Rho) (ft : FB) (fi1 : FI) (t1 : D → Rho → Option Rho) (ft1 : FB) (fe : FE) (vs1 : List Nat) (ρ : Rho) : List D → Mu → Out (List D)
  | [], μ => .ok [] μ
  | x :: xs, μ => match t x ρ with
    | none => .stk
    | some ρ1 => (ft ρ1 μ).bnd fun b μ1 => if b = true then (fi1 ρ1 μ1).bnd fun items μ2 => (lcD t1 ft1 fe (wipeR ρ1 vs1) items μ2).bnd fun l μ3 => (lc2D t ft fi1 t1 ft1 fe vs1 ρ xs μ3).bnd fun l' μ4 => .ok (l ++ l') μ4
      else lc2D t ft fi1 t1 ft1 fe vs1 ρ xs μ1
def eLc2 (fi : FI) (t : D → Rho → Option Rho) (ft : FB) (fi1 : FI) (t1 : D → Rho → Option Rho) (ft1 : FB) (fe : FE) (vs vs1 : List Nat) : FE := fun ρ μ => (fi ρ μ).bind fun l μ1 => (lc2D t ft fi1 t1 ft1 fe vs1 (wipeR ρ vs) l μ1).bnd (mkT [])
section
variable {X : Cx} {W : WX} {K : PySem.W.Frag} {mg : Str → Option Value}
def LcV (K : PySem.W.Frag) (mg : Str → Option Value) (m1 : Mc) (L : Addr) (R : Mc → Mu → List D → Prop) (H' : Hp) : Prop :=
  ∃ mA μA ys vsD, Ext m1 mA ∧ Mem K mg mA μA H' ∧ mA.fr L = none ∧ L ∉ mA.al ∧ mA.fx L = none ∧ H' L = some (.lst vsD) ∧ IsA K mg mA.fr ys vsD ∧ R mA μA ys
theorem lc2_sound {fi fi1 : FI} {t t1 : D → Rho → Option Rho} {ft ft1 : FB} {fe : FE} {vs vs1 js js1 : List Nat} (hj : ∀ j ∈ js, j ∈ vs) (hj1 : ∀ j ∈ js1, j ∈ vs1) {σ : L2.St} {H : Hp} {m : Mc} {ρ : Rho} {μ : Mu} {Q : V → Hp → Prop} (M : Mem K mg m μ H) (rr : RhoIs K mg m ρ σ)
    (h : wpE K mg m (eLc2 fi t ft fi1 t1 ft1 fe vs vs1 ρ μ) Q (fun c d H' => W c d σ H')) :
    tLc2 (tI K mg W fi) (tG K mg js t) (tT K mg (fun _ _ _ _ => False) ft) (tI K mg (fun _ _ _ _ => False) fi1) (tG K mg js1 t1) (tT K mg (fun _ _ _ _ => False) ft1) (tE K mg (fun _ _ _ _ => False) fe) vs vs1 σ H Q := by
  unfold tLc2
  refine ⟨m, ρ, μ, M, rr, ?_⟩
  have h : wpE K mg m ((fi ρ μ).bind fun l μ1 => (lc2D t ft fi1 t1 ft1 fe vs1 (wipeR ρ vs) l μ1).bnd (mkT [])) Q _ := h
  cases e1 : fi ρ μ with
  | stk => rw [e1] at h; exact h
  | exc x μ' => rw [e1] at h; exact h
  | ok items μ1 =>
    rw [e1] at h
    intro J H1 m1 x1 M1 wk L hL
    have h : wpE K mg m ((lc2D t ft fi1 t1 ft1 fe vs1 (wipeR ρ vs) items μ1).bnd (mkT [])) Q _ := h
    have h := h.mono x1
    have rw1 := (rr.mono x1).wipe vs
    refine ⟨fun i msr H' => msr = items.length - i ∧ i ≤ items.length ∧ LcV K mg m1 L (fun mA μA ys => wpE K mg mA ((lc2D t ft fi1 t1 ft1 fe vs1 (wipeR ρ vs) (items.drop i) μA).bnd (mkT ys)) Q (fun c d H' => W c d σ H')) H',
      ⟨items.length, rfl, Nat.zero_le _, m1, μ1, [], [], .refl, M1.side (M1.free hL) (M1.nin hL) (M1.fix.free hL) (by rw [hL]; exact loose_none), M1.free hL, M1.nin hL, M1.fix.free hL, upd_same, .nil, ?_⟩, ?_⟩
    · rw [List.drop_zero]; exact h
    · rintro i msr H2 ⟨rfl, hi, mA, μA, ys, vsD, xA, MA, nf, na, nx, hDl, ia, hw⟩
      by_cases hlt : i < items.length
      · refine .inr ⟨wk.go i H2 mA.fr xA.same MA.sub hlt, fun H' => LcV K mg m1 L (fun mA μA ys => wpE K mg mA ((lc2D t ft fi1 t1 ft1 fe vs1 (wipeR ρ vs) (items.drop (i + 1)) μA).bnd (mkT ys)) Q (fun c d H' => W c d σ H')) H',
          fun H' q => ⟨items.length - (i + 1), by omega, rfl, hlt, q⟩, fun x H3 hyl => ?_⟩
        have hd : items[i]? = some items[i] := List.getElem?_eq_getElem hlt
        have MAh := MA.hold hDl nf na
        obtain ⟨m3, x3, M3, is3⟩ := wk.yld i H2 _ μA x H3 _ (show Same m1.fr (mA.hold L (.lst vsD)).fr from xA.same) MAh hd hyl
        have rwA : RhoIs K mg (mA.hold L (.lst vsD)) (wipeR ρ vs) (wipe σ vs) := (rw1.mono xA).same rfl rfl
        have rw3 := rwA.mono x3
        rw [List.drop_eq_getElem_cons hlt] at hw
        have fin : ∀ (m5 : Mc) (μ5 : Mu) (H5 : Hp), Ext (mA.hold L (.lst vsD)) m5 → Mem K mg m5 μ5 H5 → Ext mA { m5 with fx := mA.fx } ∧ Mem K mg { m5 with fx := mA.fx } μ5 H5 ∧ m5.fr L = none ∧ L ∉ m5.al ∧ H5 L = some (.lst vsD) := fun m5 μ5 H5 x5 M5 => by
          obtain ⟨q1, q2, q3, q4⟩ := M5.unhold (fx := mA.fx) x5.fix nx MA.ntx
          exact ⟨⟨x5.pre, x5.same, rfl⟩, q1, q2, q3, q4⟩
        cases et : t items[i] (wipeR ρ vs) with
        | none =>
          unfold lc2D at hw
          rw [et] at hw
          exact hw.elim
        | some ρ1 =>
          unfold lc2D at hw
          rw [et] at hw
          refine ⟨m3, μA, wipeR ρ vs, _, ρ1, M3, rw3, is3, et, fun σ2 r2 ag => ⟨wipe_agree ag hj, m3, ρ1, μA, M3, r2, ?_⟩⟩
          dsimp only at hw
          cases eb : ft ρ1 μA with
          | stk => rw [eb] at hw; exact hw.elim
          | exc x μ' => rw [eb] at hw; exact hw.elim
          | ok b μ4 =>
            rw [eb] at hw
            intro H4 m4 x4 M4
            cases b with
            | false =>
              rw [if_neg Bool.false_ne_true]
              obtain ⟨q1, q2, q3, q4, q5⟩ := fin m4 μ4 H4 (x3.trans x4) M4
              exact ⟨_, μ4, ys, vsD, xA.trans q1, q2, q3, q4, nx, q5, ia.mono q1.same, wpE.mono q1 hw⟩
            | true =>
              rw [if_pos rfl]
              refine ⟨m4, ρ1, μ4, M4, r2.mono x4, ?_⟩
              rw [bnd_ok, if_pos rfl] at hw
              cases ei : fi1 ρ1 μ4 with
              | stk => rw [ei] at hw; exact hw.elim
              | exc x μ' => rw [ei] at hw; exact hw.elim
              | ok items1 μ5 =>
                rw [ei, bnd_ok, bnd_assoc] at hw
                simp only [bnd_assoc, bnd_ok] at hw
                intro J1 H5 m5 x5 M5 wk1
                obtain ⟨q1, q2, q3, q4, q5⟩ := fin m5 μ5 H5 ((x3.trans x4).trans x5) M5
                have rwB : RhoIs K mg { m5 with fx := mA.fx } (wipeR ρ1 vs1) (wipe σ2 vs1) := ((r2.mono (x4.trans x5)).wipe vs1).same rfl rfl
                refine ⟨fun j k H' => k = items1.length - j ∧ j ≤ items1.length ∧ LcV K mg { m5 with fx := mA.fx } L (fun mB μB ys => wpE K mg mB ((lcD t1 ft1 fe (wipeR ρ1 vs1) (items1.drop j) μB).bnd fun l1 μ => (lc2D t ft fi1 t1 ft1 fe vs1 (wipeR ρ vs) (items.drop (i + 1)) μ).bnd fun l2 μ' => mkT ys (l1 ++ l2) μ') Q (fun c d H' => W c d σ H')) H',
                  ⟨items1.length, rfl, Nat.zero_le _, _, μ5, ys, vsD, .refl, q2, q3, q4, nx, q5, ia.mono q1.same, by rw [List.drop_zero]; exact wpE.mono q1 hw⟩, ?_⟩
                rintro j k H6 ⟨rfl, hj', mB, μB, ys2, vsB, xB, MB, nfB, naB, nxB, hDB, iaB, hwB⟩
                by_cases hlt1 : j < items1.length
                · refine .inr ⟨wk1.go j H6 mB.fr xB.same MB.sub hlt1, fun H' => LcV K mg { m5 with fx := mA.fx } L (fun mB μB ys => wpE K mg mB ((lcD t1 ft1 fe (wipeR ρ1 vs1) (items1.drop (j + 1)) μB).bnd fun l1 μ => (lc2D t ft fi1 t1 ft1 fe vs1 (wipeR ρ vs) (items.drop (i + 1)) μ).bnd fun l2 μ' => mkT ys (l1 ++ l2) μ') Q (fun c d H' => W c d σ H')) H',
                    fun H' q => ⟨items1.length - (j + 1), by omega, rfl, hlt1, q⟩, fun y H7 hyl1 => ?_⟩
                  have hd1 : items1[j]? = some items1[j] := List.getElem?_eq_getElem hlt1
                  have MBh := MB.hold hDB nfB naB
                  obtain ⟨m7, x7, M7, is7⟩ := wk1.yld j H6 _ μB y H7 _ (show Same m5.fr (mB.hold L (.lst vsB)).fr from xB.same) MBh hd1 hyl1
                  have rwB2 : RhoIs K mg (mB.hold L (.lst vsB)) (wipeR ρ1 vs1) (wipe σ2 vs1) := (rwB.mono xB).same rfl rfl
                  have rw7 := rwB2.mono x7
                  rw [List.drop_eq_getElem_cons hlt1] at hwB
                  have finB : ∀ (m5 : Mc) (μ5 : Mu) (H5 : Hp), Ext (mB.hold L (.lst vsB)) m5 → Mem K mg m5 μ5 H5 → Ext mB { m5 with fx := mB.fx } ∧ Mem K mg { m5 with fx := mB.fx } μ5 H5 ∧ m5.fr L = none ∧ L ∉ m5.al ∧ H5 L = some (.lst vsB) := fun m5 μ5 H5 x5 M5 => by
                    obtain ⟨q1, q2, q3, q4⟩ := M5.unhold (fx := mB.fx) x5.fix nxB MB.ntx
                    exact ⟨⟨x5.pre, x5.same, rfl⟩, q1, q2, q3, q4⟩
                  cases et1 : t1 items1[j] (wipeR ρ1 vs1) with
                  | none =>
                    unfold lcD at hwB
                    rw [et1] at hwB
                    exact hwB.elim
                  | some ρ3 =>
                    unfold lcD at hwB
                    rw [et1] at hwB
                    refine ⟨m7, μB, wipeR ρ1 vs1, _, ρ3, M7, rw7, is7, et1, fun σ3 r3 ag => ⟨wipe_agree ag hj1, m7, ρ3, μB, M7, r3, ?_⟩⟩
                    dsimp only at hwB
                    cases eb1 : ft1 ρ3 μB with
                    | stk => rw [eb1] at hwB; exact hwB.elim
                    | exc x μ' => rw [eb1] at hwB; exact hwB.elim
                    | ok b μ8 =>
                      rw [eb1] at hwB
                      intro H8 m8 x8 M8
                      cases b with
                      | false =>
                        rw [if_neg Bool.false_ne_true]
                        obtain ⟨p1, p2, p3, p4, p5⟩ := finB m8 μ8 H8 (x7.trans x8) M8
                        exact ⟨_, μ8, ys2, vsB, xB.trans p1, p2, p3, p4, nxB, p5, iaB.mono p1.same, wpE.mono p1 hwB⟩
                      | true =>
                        rw [if_pos rfl]
                        refine ⟨m8, ρ3, μ8, M8, r3.mono x8, ?_⟩
                        dsimp only at hwB
                        cases ee : fe ρ3 μ8 with
                        | stk => rw [ee] at hwB; exact hwB.elim
                        | exc x μ' => rw [ee] at hwB; exact hwB.elim
                        | ok s μ9 =>
                          rw [ee] at hwB
                          intro z H9 m9 x9 M9 r9
                          cases s with
                          | c k => exact hwB.elim
                          | d d =>
                            obtain ⟨p1, p2, p3, p4, p5⟩ := finB m9 μ9 H9 ((x7.trans x8).trans x9) M9
                            have iy : IsA K mg m9.fr (ys2 ++ [d]) (vsB ++ [z]) := (iaB.mono p1.same).append (.cons r9 .nil)
                            dsimp only at hwB
                            cases el : lcD t1 ft1 fe (wipeR ρ1 vs1) (items1.drop (j + 1)) μ9 with
                            | stk => rw [el] at hwB; exact hwB.elim
                            | exc x μ' => rw [el] at hwB; exact hwB.elim
                            | ok l μ10 =>
                              rw [el] at hwB
                              dsimp only at hwB
                              rw [bnd_ok] at hwB
                              have hlen : ys2.length < cap := by
                                cases e2 : lc2D t ft fi1 t1 ft1 fe vs1 (wipeR ρ vs) (items.drop (i + 1)) μ10 with
                                | stk => rw [e2] at hwB; exact hwB.elim
                                | exc x μ' => rw [e2] at hwB; exact hwB.elim
                                | ok l2 μ11 =>
                                  rw [e2, bnd_ok] at hwB
                                  unfold mkT at hwB
                                  split at hwB
                                  · rename_i hc
                                    simp only [List.length_append, List.length_cons] at hc
                                    omega
                                  · exact hwB.elim
                              refine ⟨vsB, p5, ?_, _, μ9, ys2 ++ [d], vsB ++ [z], xB.trans p1, p2.side p3 p4 nxB (by rw [p5]; exact loose_lst), p3, p4, nxB, upd_same, iy, ?_⟩
                              · rw [← iaB.length, sizeLine_eq]
                                unfold cap at hlen
                                omega
                              · dsimp only
                                rw [el, bnd_ok]
                                have e3 : (fun (l2 : List D) μ' => mkT (ys2 ++ [d]) (l ++ l2) μ') = fun l2 μ' => mkT ys2 (d :: l ++ l2) μ' := by
                                  funext l2 μ'
                                  unfold mkT
                                  simp
                                rw [e3]
                                exact wpE.mono p1 hwB
                · refine .inl ⟨wk1.stop j H6 mB.fr xB.same MB.sub (by omega), _, μB, ys2, vsB, (xA.trans q1).trans xB, MB, nfB, naB, nxB, hDB, iaB, ?_⟩
                  rw [List.drop_of_length_le (by omega)] at hwB
                  exact hwB
      · refine .inl ⟨wk.stop i H2 mA.fr xA.same MA.sub (by omega), ?_⟩
        rw [List.drop_of_length_le (by omega)] at hw
        have hw : wpE K mg mA (mkT ys [] μA) Q _ := hw
        unfold mkT at hw
        split at hw
        · rw [List.append_nil] at hw
          exact hw _ _ (mA.add L _) (ext_add nf _) (MA.settle hDl nf na nx) (.lst upd_same (ia.mono (same_add nf _)))
        · exact hw.elim
section
variable {elt tg iter tg1 iter1 : Expr} {ifs ifs1 : List Expr} {scope : Scope} {own : List (Str × Nat)} {vs vs1 : List Nat} {pos : Pos} {fi fi1 : FI} {t t1 : D → Rho → Option Rho} {ft ft1 : FB} {fe : FE} {js js1 : List Nat}
theorem de_lc2 (hc : X.calm = true) (hN : X.N.Nodup) (hi : DI X W tg iter fi) (ok : BlkOk X.N X.env.scope scope own)
    (hg : ∀ (s : Shared) (H : Hp) (C : Addr) (cl : List (Str × Addr)) (fp : List Addr), DG (X.blk s H scope (compEnvC scope cl C X.env) fp) js tg t) (ht : ∀ (s : Shared) (H : Hp) (C : Addr) (cl : List (Str × Addr)) (fp : List Addr), DTs (X.blk s H scope (compEnvC scope cl C X.env) fp) (fun _ _ _ _ => False) ifs ft)
    (hi1 : ∀ (s : Shared) (H : Hp) (C : Addr) (cl : List (Str × Addr)) (fp : List Addr), DI (X.blk s H scope (compEnvC scope cl C X.env) fp) (fun _ _ _ _ => False) tg1 iter1 fi1)
    (hg1 : ∀ (s : Shared) (H : Hp) (C : Addr) (cl : List (Str × Addr)) (fp : List Addr), DG (X.blk s H scope (compEnvC scope cl C X.env) fp) js1 tg1 t1) (ht1 : ∀ (s : Shared) (H : Hp) (C : Addr) (cl : List (Str × Addr)) (fp : List Addr), DTs (X.blk s H scope (compEnvC scope cl C X.env) fp) (fun _ _ _ _ => False) ifs1 ft1)
    (he : ∀ (s : Shared) (H : Hp) (C : Addr) (cl : List (Str × Addr)) (fp : List Addr), DE (X.blk s H scope (compEnvC scope cl C X.env) fp) (fun _ _ _ _ => False) elt fe) (hv : own.map (·.2) = vs) (hv1 : ∀ i ∈ vs1, i ∈ own.map (·.2)) (hj : ∀ j ∈ js, j ∈ vs) (hj1 : ∀ j ∈ js1, j ∈ vs1) (hs : ∀ x, foldedSetIterable iter X.env x = pure x := by intro _; rfl) (hs1 : ∀ env x, foldedSetIterable iter1 env x = pure x := by intro _ _; rfl) :
    DE X W (.ListComp elt [⟨tg, iter, ifs, 0⟩, ⟨tg1, iter1, ifs1, 0⟩] scope pos) (eLc2 fi t ft fi1 t1 ft1 fe vs vs1) := by
  subst hv
  exact .in ⟨_, pe_lc2 hc hN hi.pe ok hv1 (fun s H C cl fp => (hg s H C cl fp).pe) (fun s H C cl fp => (ht s H C cl fp).pe) (fun s H C cl fp => (hi1 s H C cl fp).pe) (fun s H C cl fp => (hg1 s H C cl fp).pe) (fun s H C cl fp => (ht1 s H C cl fp).pe) (fun s H C cl fp => (he s H C cl fp).pe) hs hs1, fun σ H m ρ μ Q M rr h => lc2_sound hj hj1 M rr h⟩
theorem ds_setLc2 {i : Nat} {y : Str} {py spos : Pos} (hc : X.calm = true) (hN : X.N.Nodup) (hy : X.N[i]? = some y) (hyl : X.env.scope.names.lookup y = some .local)
    (hsw : swapsWith (.ListComp elt [⟨tg, iter, ifs, 0⟩, ⟨tg1, iter1, ifs1, 0⟩] scope pos) (some (.Name y py)) spos.line X.env = pure true) (hi : DI X W tg iter fi) (ok : BlkOk X.N X.env.scope scope own)
    (hg : ∀ (s : Shared) (H : Hp) (C : Addr) (cl : List (Str × Addr)) (fp : List Addr), DG (X.blk s H scope (compEnvC scope cl C X.env) fp) js tg t) (ht : ∀ (s : Shared) (H : Hp) (C : Addr) (cl : List (Str × Addr)) (fp : List Addr), DTs (X.blk s H scope (compEnvC scope cl C X.env) fp) (fun _ _ _ _ => False) ifs ft)
    (hi1 : ∀ (s : Shared) (H : Hp) (C : Addr) (cl : List (Str × Addr)) (fp : List Addr), DI (X.blk s H scope (compEnvC scope cl C X.env) fp) (fun _ _ _ _ => False) tg1 iter1 fi1)
    (hg1 : ∀ (s : Shared) (H : Hp) (C : Addr) (cl : List (Str × Addr)) (fp : List Addr), DG (X.blk s H scope (compEnvC scope cl C X.env) fp) js1 tg1 t1) (ht1 : ∀ (s : Shared) (H : Hp) (C : Addr) (cl : List (Str × Addr)) (fp : List Addr), DTs (X.blk s H scope (compEnvC scope cl C X.env) fp) (fun _ _ _ _ => False) ifs1 ft1)
    (he : ∀ (s : Shared) (H : Hp) (C : Addr) (cl : List (Str × Addr)) (fp : List Addr), DE (X.blk s H scope (compEnvC scope cl C X.env) fp) (fun _ _ _ _ => False) elt fe) (hv : own.map (·.2) = vs) (hv1 : ∀ i ∈ vs1, i ∈ own.map (·.2)) (hj : ∀ j ∈ js, j ∈ vs) (hj1 : ∀ j ∈ js1, j ∈ vs1) (hs : ∀ x, foldedSetIterable iter X.env x = pure x := by intro _; rfl) (hs1 : ∀ env x, foldedSetIterable iter1 env x = pure x := by intro _ _; rfl) :
    DS X W (.Assign [.Name y py] (.ListComp elt [⟨tg, iter, ifs, 0⟩, ⟨tg1, iter1, ifs1, 0⟩] scope pos) spos) (sSet i (eLc2 fi t ft fi1 t1 ft1 fe vs vs1)) := by
  subst hv
  exact .in ⟨_, ps_setLc2 hc hN hy hyl hsw hi.pe ok hv1 (fun s H C cl fp => (hg s H C cl fp).pe) (fun s H C cl fp => (ht s H C cl fp).pe) (fun s H C cl fp => (hi1 s H C cl fp).pe) (fun s H C cl fp => (hg1 s H C cl fp).pe) (fun s H C cl fp => (ht1 s H C cl fp).pe) (fun s H C cl fp => (he s H C cl fp).pe) hs hs1, fun σ H m ρ μ D M rr h =>
    lc2_sound hj hj1 M rr (toS_wp rr h fun s v μ H' m' e M' r' h' => h' _ H' m' .refl M' ((rr.mono e).set i r'))⟩
end
end
end GF

set_option maxHeartbeats 2000000
/-! Steps that never show the kernel a match over a call not yet told. -/
namespace GF
open PySem PySem.Spec PyProof.Rows L2
def seqO (o : SO) (g : FS) : SO := match o with
  | .nx ρ' μ' => g ρ' μ'
  | o => o
theorem sSeq_o (f g : FS) (ρ : Rho) (μ : Mu) : sSeq f g ρ μ = seqO (f ρ μ) g := by
  unfold sSeq seqO
  cases f ρ μ <;> rfl
theorem seqO_nx (ρ : Rho) (μ : Mu) (g : FS) : seqO (.nx ρ μ) g = g ρ μ := by unfold seqO; rfl
theorem seqO_rt (s : S) (μ : Mu) (g : FS) : seqO (.rt s μ) g = .rt s μ := by unfold seqO; rfl
theorem seqO_exc (x : Exn) (ρ : Rho) (μ : Mu) (g : FS) : seqO (.exc x ρ μ) g = .exc x ρ μ := by unfold seqO; rfl
theorem bnd1_ok {α β : Type} (a : α) (m : Mu) (k : α → Mu → Out β) : (Out.ok a m).bind k = k a m := by unfold Out.bind; rfl
theorem bnd1_exc {α β : Type} (x : Exn) (m : Mu) (k : α → Mu → Out β) : (Out.exc x m : Out α).bind k = .exc x m := by unfold Out.bind; rfl
theorem toS_ok (s : S) (μ : Mu) (ρ : Rho) (k : S → Mu → SO) : toS (.ok s μ) ρ k = k s μ := by unfold toS; rfl
theorem toS_exc (x : Exn) (μ : Mu) (ρ : Rho) (k : S → Mu → SO) : toS (.exc x μ) ρ k = .exc x ρ μ := by unfold toS; rfl
theorem toSB_ok (s : Bool) (μ : Mu) (ρ : Rho) (k : Bool → Mu → SO) : toSB (.ok s μ) ρ k = k s μ := by unfold toSB; rfl
theorem toSB_exc (x : Exn) (μ : Mu) (ρ : Rho) (k : Bool → Mu → SO) : toSB (.exc x μ) ρ k = .exc x ρ μ := by unfold toSB; rfl
theorem toSA_ok (s : List S) (μ : Mu) (ρ : Rho) (k : List S → Mu → SO) : toSA (.ok s μ) ρ k = k s μ := by unfold toSA; rfl
theorem toSI_ok (s : List D) (μ : Mu) (ρ : Rho) (k : List D → Mu → SO) : toSI (.ok s μ) ρ k = k s μ := by unfold toSI; rfl
theorem eV_o (i : Nat) (ρ : Rho) (μ : Mu) (s : S) (h : ρ[i]? = some (some s)) : eV i ρ μ = .ok s μ := by unfold eV; rw [h]
theorem eV_0 (s : S) (ρ : Rho) (μ : Mu) : eV 0 (some s :: ρ) μ = .ok s μ := eV_o _ _ _ _ rfl
theorem eV_s (i : Nat) (s : Option S) (ρ : Rho) (μ : Mu) : eV (i + 1) (s :: ρ) μ = eV i ρ μ := by
  unfold eV
  rw [List.getElem?_cons_succ]
theorem asB_o (b : Bool) (μ : Mu) : asB (.d (.bl b)) μ = .ok b μ := by unfold asB; rfl
theorem op2_o {g : D → D → Option D} {x y z : D} (μ : Mu) (h : g x y = some z) : op2 g (.d x) (.d y) μ = .ok (.d z) μ := by
  unfold op2 view
  simp only [h]
theorem op1_o {g : D → Option D} {x z : D} (μ : Mu) (h : g x = some z) : op1 g (.d x) μ = .ok (.d z) μ := by
  unfold op1 view
  simp only [h]
theorem op2_d (g : D → D → Option D) (x y : D) (μ : Mu) : op2 g (.d x) (.d y) μ = match g x y with
    | some z => .ok (.d z) μ
    | none => .stk := by
  unfold op2 view
  rfl
theorem eCall_o {n : Nat} {g : List S → Mu → Out S} {fa : FA} {ρ : Rho} {μ μ1 : Mu} {ss : List S} (h : fa ρ μ = .ok ss μ1) (hl : ss.length = n) : eCall n g fa ρ μ = g ss μ1 := by
  unfold eCall
  rw [h, bnd1_ok, if_pos hl]
theorem eCall_1 (g : List S → Mu → Out S) (f : FE) (ρ : Rho) (μ : Mu) : eCall 1 g (aCons f aNil) ρ μ = (f ρ μ).bind fun s μ1 => g [s] μ1 := by
  unfold eCall aCons aNil
  cases f ρ μ <;> rfl
theorem eCall_2 (g : List S → Mu → Out S) (f f2 : FE) (ρ : Rho) (μ : Mu) : eCall 2 g (aCons f (aCons f2 aNil)) ρ μ = (f ρ μ).bind fun s μ1 => (f2 ρ μ1).bind fun s2 μ2 => g [s, s2] μ2 := by
  unfold eCall aCons aNil
  cases f ρ μ with
  | stk => rfl
  | exc x m => rfl
  | ok s μ1 => simp only [bnd1_ok]; cases f2 ρ μ1 <;> rfl
theorem eCall_3 (g : List S → Mu → Out S) (f f2 f3 : FE) (ρ : Rho) (μ : Mu) : eCall 3 g (aCons f (aCons f2 (aCons f3 aNil))) ρ μ = (f ρ μ).bind fun s μ1 => (f2 ρ μ1).bind fun s2 μ2 => (f3 ρ μ2).bind fun s3 μ3 => g [s, s2, s3] μ3 := by
  unfold eCall aCons aNil
  cases f ρ μ with
  | stk => rfl
  | exc x m => rfl
  | ok s μ1 =>
    simp only [bnd1_ok]
    cases f2 ρ μ1 with
    | stk => rfl
    | exc x m => rfl
    | ok s2 μ2 => simp only [bnd1_ok]; cases f3 ρ μ2 <;> rfl
theorem sIf_o (c : FB) (f g : FS) (ρ : Rho) (μ : Mu) : sIf c f g ρ μ = toSB (c ρ μ) ρ fun b μ' => if b = true then f ρ μ' else g ρ μ' := by
  unfold sIf; rfl
theorem bT_o (f : FE) (ρ : Rho) (μ : Mu) : bT f ρ μ = (f ρ μ).bind asB := by unfold bT; rfl
theorem if_tt {α : Type} (x y : α) : (if true = true then x else y) = x := if_pos rfl
theorem if_ff {α : Type} (x y : α) : (if false = true then x else y) = y := if_neg Bool.false_ne_true
theorem forD_nil (t : D → Rho → Option Rho) (b : FS) (ρ : Rho) (μ : Mu) : forD t b [] ρ μ = .nx ρ μ := by unfold forD; rfl
theorem forD_nx {t : D → Rho → Option Rho} {b : FS} {ρ ρ1 ρ2 : Rho} {μ μ2 : Mu} {d : D} {l : List D} (h : t d ρ = some ρ1) (h2 : b ρ1 μ = .nx ρ2 μ2) : forD t b (d :: l) ρ μ = forD t b l ρ2 μ2 := by
  unfold forD
  rw [h]
  dsimp only
  rw [h2]
  cases l <;> rfl
theorem forD_rt {t : D → Rho → Option Rho} {b : FS} {ρ ρ1 : Rho} {μ μ2 : Mu} {d : D} {l : List D} {s : S} (h : t d ρ = some ρ1) (h2 : b ρ1 μ = .rt s μ2) : forD t b (d :: l) ρ μ = .rt s μ2 := by
  unfold forD
  rw [h]
  dsimp only
  rw [h2]
theorem lcD_one {t : D → Rho → Option Rho} {fe : FE} {ρ ρ1 : Rho} {μ μ1 μ2 : Mu} {x d : D} {l l' : List D} (h : t x ρ = some ρ1) (h1 : fe ρ1 μ = .ok (.d d) μ1) (h2 : lcD t bYes fe ρ l μ1 = .ok l' μ2) : lcD t bYes fe ρ (x :: l) μ = .ok (d :: l') μ2 := by
  unfold lcD
  rw [h]
  simp only [bYes, h1, h2]
theorem mkTup_1 (d : D) (μ : Mu) : mkTup [.d d] μ = .ok (.d (.tup [d])) μ := by
  unfold mkTup
  have : (1 : Nat) ≤ cap := by decide
  simp only [allD, Option.map, List.length_cons, List.length_nil, Nat.zero_add, if_pos this]
theorem mkTup_2 (d e : D) (μ : Mu) : mkTup [.d d, .d e] μ = .ok (.d (.tup [d, e])) μ := by
  unfold mkTup
  have : (2 : Nat) ≤ cap := by decide
  simp only [allD, Option.map, List.length_cons, List.length_nil, Nat.zero_add, Nat.reduceAdd, if_pos this]
theorem mkTup_0 (μ : Mu) : mkTup [] μ = .ok (.d (.tup [])) μ := by
  unfold mkTup
  have : (0 : Nat) ≤ cap := by decide
  simp only [allD, List.length_nil, if_pos this]
theorem mkLst_n {ss : List S} {l : List D} (μ : Mu) (h : allD ss = some l) (hc : l.length ≤ cap) : mkLst ss μ = .ok (.d (.lst l)) μ := by
  unfold mkLst
  simp only [h, if_pos hc]
theorem seqOf_l (l : List D) (μ : Mu) : seqOf (.d (.lst l)) μ = .ok l μ := by unfold seqOf; rfl
theorem seqOf_t (l : List D) (μ : Mu) : seqOf (.d (.tup l)) μ = .ok l μ := by unfold seqOf; rfl
theorem retS_d (d : D) (μ : Mu) : retS μ.length (.d d) μ = .ok (.d d) μ := by unfold retS; rw [List.take_length]
theorem fnD_o {N : Nat} {b : FS} {ss : List S} {μ μ' : Mu} {d : D} (h : b (rho0 N ss) μ = .rt (.d d) μ') (hl : μ'.length = μ.length) : fnD N b ss μ = .ok (.d d) μ' := by
  rw [fnD_rt h]
  unfold retS
  rw [← hl, List.take_length]
end GF

set_option maxHeartbeats 2000000
/-! is True; the loop over the cells that all laws share. -/
namespace GF
open PySem PySem.Spec PyProof.Rows L2
def isBD : D → D → Option D
  | .bl a, .bl b => some (.bl (decide (a = b)))
  | _, _ => none
def notBD : D → D → Option D
  | .bl a, .bl b => some (.bl (!decide (a = b)))
  | _, _ => none
section
variable {K : PySem.W.Frag} {mg : Str → Option Value}
theorem snd_isB : Snd2 K mg rIsB isBD := by
  intro F H x y a b z Q sm ra rb hg G
  unfold isBD at hg
  split at hg
  · cases hg
    exact ⟨_, _, ra.bl, rb.bl, G.1 _ (.bl _)⟩
  · cases hg
theorem snd_notB : Snd2 K mg rNotB notBD := by
  intro F H x y a b z Q sm ra rb hg G
  unfold notBD at hg
  split at hg
  · cases hg
    exact ⟨_, _, ra.bl, rb.bl, G.1 _ (.bl _)⟩
  · cases hg
end
theorem iter_ok {ns : List Int} {lo hi : Int} {ρ : Rho} {μ : Mu} (h0 : 0 ≤ lo) (h1 : lo ≤ 1000) (h2 : 0 ≤ hi) (h3 : hi ≤ 1000) : ∃ n : Nat, iRange1 (aCons (eBi max2D (aCons (eC (.int lo)) (aCons (eBi min2D (aCons (eC (.int hi)) (aCons (eBi lenD (aCons (eV 0) aNil)) aNil))) aNil))) aNil) (some (.d (.scr ns)) :: ρ) μ = .ok (upD 0 n) μ := by
  obtain ⟨a, ha⟩ : ∃ a : Int, a = (if (ns.length : Int) < hi then (ns.length : Int) else hi) := ⟨_, rfl⟩
  obtain ⟨b, hb⟩ : ∃ b : Int, b = (if a > lo then a else lo) := ⟨_, rfl⟩
  have h4 : a ≤ 1000 := by rw [ha]; split <;> omega
  have h5 : 0 ≤ b ∧ b ≤ 1000 := by rw [hb]; split <;> omega
  have e1 : eBi min2D (aCons (eC (.int hi)) (aCons (eBi lenD (aCons (eV 0) aNil)) aNil)) (some (.d (.scr ns)) :: ρ) μ = .ok (.d (.int a)) μ := by
    rw [ha]
    simp only [eBi, aCons, aNil, eC, eV_0, bnd1_ok, opA, viewA, view, Option.map_some, lenD, min2D]
  have e2 : eBi max2D (aCons (eC (.int lo)) (aCons (eBi min2D (aCons (eC (.int hi)) (aCons (eBi lenD (aCons (eV 0) aNil)) aNil))) aNil)) (some (.d (.scr ns)) :: ρ) μ = .ok (.d (.int b)) μ := by
    generalize eBi min2D (aCons (eC (.int hi)) (aCons (eBi lenD (aCons (eV 0) aNil)) aNil)) = F at *
    rw [hb]
    simp only [eBi, aCons, aNil, eC, bnd1_ok, e1, opA, viewA, view, Option.map_some, max2D]
  refine ⟨b.toNat, ?_⟩
  unfold iRange1
  generalize eBi max2D (aCons (eC (.int lo)) (aCons (eBi min2D (aCons (eC (.int hi)) (aCons (eBi lenD (aCons (eV 0) aNil)) aNil))) aNil)) = F at *
  simp only [aCons, aNil, e2, bnd1_ok]
  exact rng1_ok (by unfold bigR; omega)
theorem law_body {r0 r1 : Rho} {μ μ' μ2 : Mu} {n : Nat} {fi : FI} {b : FS} {fw : List S → Mu → Out S} (hi : fi r0 μ = .ok (upD 0 n) μ) (e : forD (gN 1) b (upD 0 n) r0 μ = .nx r1 μ') (hw : fw [] μ' = .ok (.d (.bl true)) μ2) :
    sSeq (sFor fi (gN 1) b) (sRet (eCall0 fw)) r0 μ = .rt (.d (.bl true)) μ2 := by
  simp only [sSeq_o, sFor, hi, toSI_ok, e, seqO_nx, sRet, eCall0, hw, toS_ok]
def isTrueO (o : Out S) : Bool := match o with
  | .ok (.d (.bl true)) _ => true
  | _ => false
theorem isTrueO_ok {o : Out S} (h : isTrueO o = true) : ∃ μ', o = .ok (.d (.bl true)) μ' := by
  unfold isTrueO at h
  split at h
  · exact ⟨_, rfl⟩
  · cases h
end GF
namespace GF
open PySem PySem.Spec PyProof.Rows L2
theorem fnD_exc {N : Nat} {b : FS} {ss : List S} {μ μ' : Mu} {x : Exn} {ρ : Rho} (h : b (rho0 N ss) μ = .exc x ρ μ') (hl : μ'.length = μ.length) : fnD N b ss μ = .exc x μ' := by
  unfold fnD
  rw [h]
  show Out.exc x (μ'.take μ.length) = _
  rw [← hl, List.take_length]
theorem eRef_exc {ks : Kinds} {f : FE} {ρ : Rho} {μ μ' : Mu} {c wd : Str} (h : f ρ μ = .exc ⟨c, []⟩ μ') (hk : ks.lookup c = some wd) : eRef ks f ρ μ = .ok (.d (.str wd)) μ' := by
  unfold eRef
  rw [h]
  simp only [hk]
theorem eCallV_2 {i : Nat} {tb : FTab} {f f2 : FE} {ρ : Rho} {μ : Mu} {a b : S} {x : Str} {g : List S → Mu → Out S} (h : ρ[i]? = some (some (.d (.fn x)))) (ht : tb x = some (2, g)) (ha : f ρ μ = .ok a μ) (hb : f2 ρ μ = .ok b μ) : eCallV i tb (aCons f (aCons f2 aNil)) ρ μ = g [a, b] μ := by
  unfold eCallV
  rw [h]
  dsimp only
  rw [ht]
  dsimp only
  unfold aCons aNil
  simp only [ha, hb, bnd1_ok, List.length_cons, List.length_nil, Nat.zero_add, Nat.reduceAdd, if_true]
end GF

set_option maxHeartbeats 2000000
/-! The __init__ of an own error: super().__init__(e), then self.f = a. -/
namespace GF
open PySem PySem.Spec PyProof.Rows L2 NdefX
abbrev mwO (x : Addr) : Obj := PySem.W.kxs_mw "ValueError.__init__" x
section
variable {X : Cx} {pins : List (Addr × Obj)} {σ : L2.St} {H : Hp} {s : Shared} {A : Around} {E : Value → Shared → Prop}
/-- ValueError.__init__, bound, is called -/
theorem bound_init {x u C : Addr} {us : List Value} {Q : Value → Shared → Prop} (T : OexC X.K C) (I : Inv X pins σ H s) (hm0 : s.heap.get? u = some (mwO x)) (hx0 : H x = some (exo x C none)) (len0 : us.length ≤ sizeLine) (go : ∀ s', Inv X pins σ H s' → Q .none s') :
    wpAny (model X.prog X.w) A (call (.ref u) us) Q E s := by
  obtain ⟨n1, n2, n3, n4, n5, n6, n7, n8, n9, m0, m1, m2, m3, m4, m5, clsC, refsC⟩ := T.cls
  obtain ⟨tt, objx⟩ := exo_at I.hok hx0
  obtain ⟨hp0, gn, dw, tk0, os0⟩ := s
  have kC := I.kIn _ _ clsC
  have fin : ∀ hh', (∀ b o, b ≠ x → hp0.get? b = some o → hh'.get? b = some o) → hh'.get? x = some ({ cls := .ref C, dict := none, data := .fields #[.ref hp0.objs.size, .none, .none, .none, .bool false, .none] } : Obj) → Q .none ⟨hh', gn, dw, tk0, os0⟩ := fun hh' k0 e0 => by
    have J := I.write (t' := tk0) (x := x) (e := x) (o := exo x C none) (by rw [hx0]; exact True.intro) (.inl rfl) k0 ⟨_, e0⟩ (exo_ok e0)
    have same : upd H x (exo x C none) = H := by
      funext b
      by_cases hb : b = x
      · subst hb
        rw [upd_same, hx0]
      · rw [upd_ne hb]
    rw [same] at J
    exact go _ J
  refine wpAny_call (codeAny_of_tree ?_)
  show wpAny (model X.prog X.w) A.in1 (callAny (Value.ref u) ⟨us, []⟩) _ _ _
  simp only [callAny]
  refine wpAny_bind (wpAny_load (o := mwO x) hm0 ?_)
  simp only [mwO, PySem.W.kxs_mw, show (Value.type "method-wrapper" == Value.type "method" || Value.type "method-wrapper" == Value.type "builtin_function_or_method" || Value.type "method-wrapper" == Value.type "method-wrapper") = true from by decide, if_true]
  refine PySem.W.KFB.if_so (by decide) (wpAny_bind (PySem.W.check_bound_init F.excBase_ValueError.toExcCallFacts kC objx rfl ?_))
  refine wpAny_bind (wpAny_pure (wpAny_pure ⟨plainId_quiet F.excBase_ValueError.init.plain _, codeAny_builtin F.excBase_ValueError.initEntry ?_⟩))
  exact PySem.W.exc_init_tree (cls := .ref C) (t0 := tt) (dv := none) (c2 := .none) (c3 := .none) (b4 := .bool false) objx len0 fun hh' k0 e0 _ => fin hh' k0 e0
end
/-- the text -/
def initBody (f a : Str) (e : Expr) (p0 p1 p2 p3 p4 p5 p6 p7 p8 : Pos) : List Stmt :=
  [.Expr (.Call (.Attribute (.Call (.Name "super" p0) [] [] p1) "__init__" p2) [e] [] p3) p4, .Assign [.Attribute (.Name "self" p5) f p6] (.Name a p7) p8]
/-- what the written part says of such an __init__ -/
structure InitK (K : PySem.W.Frag) (mg : Str → Option Value) (P : Program) (C fI cc : Addr) (F : NF) (fd : FuncData) (f a : Str) (tail : List Value) : Prop where
  fn : ∃ dV kV doc pm ct oc an od osl, fd = PySem.W.ksFn F.name F.qual F.params F.body F.scope dV kV doc pm an (.ref F.c) ct cc ∧ K.lookup fI = some ⟨oc, od, .func fd, osl⟩
  cl : F.cl = [(("__class__" : Str), cc)]
  cd : PySem.W.codeIn K (.ref F.c) F.qual = true
  code : ∃ oc od vs sl file tf, K.lookup F.c = some ⟨oc, od, .fields vs, sl⟩ ∧ vs[2]? = some (.str file tf) ∧ ((P.main.file : Str) == file) = true
  cell : ∃ oc od sl, K.lookup cc = some ⟨oc, od, .cell (some (.ref C)), sl⟩
  cls : ∃ cdD, PySem.W.clsIn K C = some cdD ∧ cdD.mro = .ref C :: tail
  al : PySem.W.alongIn K "__init__" tail = some (some (.builtin "ValueError.__init__"))
  sub : PySem.W.mroIn K C (.ref C) = some true
  ve : PySem.W.subIn K (.ref C) (.type "ValueError") = some true
  op : PySem.W.nsIn K cStatics "thirdparty.any" = some none
  sup : mg "super" = none
  top : (P.main.scope.names.lookup ("super" : Str)).isSome = false
  par : ∃ ar, (F.params.posonlyargs ++ F.params.args).head? = some ar ∧ ar.arg = "self"
  sc : NScope ["self", a, "__class__"] ["self", a] ["__class__"] F.scope
  ks : F.scope.names.lookup ("super" : Str) = some .globalImplicit
  T : OexC K C
  no : PySem.W.findIn K (.ref C) f = some none
theorem super_fn {CX : CXT} {P : Program} {w : World} {K : PySem.W.Frag} {mg : Str → Option Value} {base : Heap} {C fI cc : Addr} {F : NF} {fd : FuncData} {f a : Str} {tail : List Value} {e : Expr} {p0 p1 p2 p3 p4 p5 p6 p7 p8 : Pos} {okV : V → Prop} {k : Nat} (B : InitK K mg P C fI cc F fd f a tail) (hbody : F.body = initBody f a e p0 p1 p2 p3 p4 p5 p6 p7 p8)
    (ha : ∀ (A : Around) (outer : List Env) (s : Shared) (H : Hp) (E : XK), Room k (A.deeper (envF F fI s.heap.objs.size)) → ∃ ta, PA (ncx CX P w K mg base ["self", a, "__class__"] F fI A outer s H E) [e] ta ∧ ∀ x v Q, okV v → (∀ u, Q [u] H) → ta [some (.ref x), some v, some (.ref C)] H Q)
    (hd : (a == ("__debug__" : Str)) = false) (hcd : (a == ("__classdict__" : Str)) = false) (he : ∀ env, starEach [e] env = (false, eval e env) :: starEach [] env) (hdec : a ≠ "self") (pl : Env → Sem Bool)
    (hev : ∀ env, eval (.Call (.Attribute (.Call (.Name "super" p0) [] [] p1) "__init__" p2) [e] [] p3) env = (do
      let ov ← attributeBase (.Call (.Name "super" p0) [] [] p1) "__init__" env (eval (.Call (.Name "super" p0) [] [] p1) env)
      standAt p2.atName
      let (f, first) ← holding [ov] (getMethod ov "__init__" (pl env))
      callWith p3 f first (backTo p3 (starEach [e] env)) [])) (hsw : ∀ env, swapsWith (.Call (.Attribute (.Call (.Name "super" p0) [] [] p1) "__init__" p2) [e] [] p3) none p4.line env = pure false) :
    FnOk P w K mg base CX (k + 1) fI fd ["self", a] (fun vs H Q _ => ∃ x v, vs = [.ref x, v] ∧ okV v ∧ H x = some (exo x C none) ∧ ∀ d, H d = none → d ≠ x → Q .non (upd (upd H d (exd d [(f, v)])) x (exo x C (some d)))) := by
  refine ⟨fun vs H Q E ⟨x, v, h, _⟩ => by rw [h]; rfl, fun A outer s H args us vs Q E hr e0 hb r hsp => ?_⟩
  obtain ⟨x, v, rfl, hv, hx, hq⟩ := hsp
  obtain ⟨dV, kV, doc, pm, ct, oc, an, od, osl, rfl, hf⟩ := B.fn
  obtain ⟨oc2, od2, vs2, sl2, file, tf, hcode, hvs2, hfile⟩ := B.code
  obtain ⟨oc3, od3, sl3, hcell⟩ := B.cell
  obtain ⟨cdD, hD, hmro⟩ := B.cls
  obtain ⟨ar, har, har2⟩ := B.par
  have S := B.sc
  have K0 : K.In s.heap := e0.mod.kin.keeps fun b o q => (e0.bs b o q).1
  have lim0 : s.heap.NoLimit := e0.mod.nolimit.keeps fun b o q => (e0.bs b o q).1
  obtain ⟨ux, uv, rfl, rx, rv⟩ := vals2 r
  cases (show ux = Value.ref x from rx)
  refine ks_codeAny_call_defAt hr.depth (K0 _ _ hf) rfl lim0 (PySem.W.codeRec_of K0 B.cd) rfl hb S.nocell (fun y hy => S.par y.1 (List.of_mem_zip hy).1) (fun h₁ hns kp => ?_) S.co S.gen S.kind
  have cells : CellsAt F.cl ["__class__"] [some (V.ref C)] s.heap H := by
    rw [B.cl]
    have only : ∀ y c, ([(("__class__" : Str), cc)] : List (Str × Addr)).lookup y = some c → y = "__class__" ∧ c = cc := fun y c q => by
      have := PySem.mem_of_lookup q
      simp only [List.mem_singleton, Prod.mk.injEq] at this
      exact this
    refine ⟨rfl, fun y c q => ?_, fun x y c q1 q2 => ?_, fun i y hi => ?_⟩
    · obtain ⟨_, rfl⟩ := only y c q
      exact ⟨(e0.bs _ _ (e0.mod.kin _ _ hcell)).2, _, _, K0 _ _ hcell, rfl⟩
    · rw [(only x c q1).1, (only y c q2).1]
    · cases i with
      | zero =>
        cases hi
        refine ⟨cc, by simp, fun u hu => ?_⟩
        cases hu
        exact ⟨_, rfl, _, K0 _ _ hcell, rfl⟩
      | succ i => cases hi
  have I : L2.Inv (ncx CX P w K mg base ["self", a, "__class__"] F fI A outer s H E) [] [some (.ref x), some v, some (.ref C)] H { s with heap := h₁, toks := s.toks + ([("self" : Str), a].zip [Value.ref x, uv]).length } :=
    inv_startN S hr.hd e0 rfl r cells hns kp
  have henv : callEnv (PySem.W.ksFn F.name F.qual F.params F.body F.scope dV kV doc pm an (.ref F.c) ct cc) s.heap.objs.size fI = envF F fI s.heap.objs.size := by
    unfold envF
    rw [B.cl]
    rfl
  rw [henv, hbody]
  have K1 : K.In h₁ := K0.keeps kp
  obtain ⟨tt, objx⟩ := exo_at I.hok hx
  have hkc : (envF F fI s.heap.objs.size).kindOf "__class__" = some .free := S.frk _ List.mem_cons_self
  have hkself : (envF F fI s.heap.objs.size).kindOf "self" = some .local := S.par _ List.mem_cons_self
  have hklook : (envF F fI s.heap.objs.size).cells.lookup ("__class__" : Str) = some cc := by
    show F.cl.lookup ("__class__" : Str) = some cc
    rw [B.cl]
    rfl
  obtain ⟨oD, hD1, hD2⟩ : ∃ oD, h₁.get? C = some oD ∧ oD.data = .cls cdD := by
    unfold PySem.W.clsIn at hD
    split at hD
    · rename_i c0 d0 cd0 sl0 ho0
      cases hD
      exact ⟨_, K1 _ _ ho0, rfl⟩
    · cases hD
  obtain ⟨mb, hb1, hb2⟩ := I.mod.blt
  have hself : ([("self" : Str), a].zip [Value.ref x, uv]).reverse.lookup ("self" : Str) = some (Value.ref x) := by
    have ne : (("self" : Str) == a) = false := by
      rw [beq_eq_false_iff_ne]
      exact Ne.symm hdec
    simp [List.lookup, ne]
  refine ks_wpAt_execs_cons (ks_wpAt_Expr_any (ks_wpAt_MethodCall ?_ (hev _)) I.quiet (hsw _))
  refine ks_wpAt_super_base (ar := ar) B.ks hkc rfl rfl (K1 _ _ hf) rfl har rfl (K1 _ _ hcode) rfl hvs2 hfile B.top ?_
  refine PySem.W.ks_loadName_global S.kind B.ks (Calls.loadGlobal_builtin (show Heap.Ns _ mainGlobals mg from I.mod.glob.keeps I.bk) B.sup (show Heap.Ns _ builtinsNs mb from hb1.keeps I.bk) ((hb2 "super" (by decide)).trans rfl) ⟨rfl, ?_⟩)
  refine wpAny_loadName_free S.kind hkc hklook ⟨_, K1 _ _ hcell, rfl⟩ ?_
  rw [har2]
  refine wpAny_loadName_local S.kind hkself hns (v := .ref x) hself ?_
  refine ks_wpAny_isType_cls hD1 hD2 ⟨rfl, ?_⟩
  refine ks_wpAny_call_super hD1 hD2 objx rfl (fun c0 z => by cases z) (PySem.W.looks_mroIn K1 B.sub) (fun h2 e2 k2 => ?_)
  have K2 : K.In h2 := K1.keeps k2
  have hxC : x ≠ C := fun z => by
    subst z
    unfold PySem.W.clsIn at hD
    split at hD
    · rename_i c0 d0 cd0 sl0 ho0
      have := (e0.bs _ _ (e0.mod.kin _ _ ho0)).2
      rw [hx] at this
      cases this
    · cases hD
  have LT : PySem.W.Looks (model P w) h2 (typeOf (.ref x)) (.ref C) := fun A Q E s k q => wpAny_typeOf_ref (k _ _ (k2 _ _ objx)) q
  refine PySem.W.kxs_getMethod PySem.W.kxs_ValueError e2 (PySem.W.looks_opaque K2 B.op) (l₀ := Value.ref C :: tail) (l := tail) (fun A Q E s k q => wpAny_bind (PySem.W.looks_clsIn K2 hD A _ E s k (wpAny_pure (by rw [hmro]; exact q)))) (by simp [List.dropWhile_cons]) K2 B.al (LT.andThen (PySem.W.looks_subIn K2 B.ve)) hxC rfl ?_
  obtain ⟨ta, pa, hta⟩ := ha A outer s H E (hr.deeper _)
  have kk : ∀ b o, h₁.get? b = some o → (h2.push (mwO x)).get? b = some o := fun b o q => Heap.get?_push_of_some _ (k2 _ _ q)
  have hu : (h2.push (mwO x)).get? h2.objs.size = some (mwO x) := Heap.get?_push_size _ rfl
  have hsz : h₁.objs.size ≤ h2.objs.size := Nat.le_of_lt (Heap.lt_size e2)
  have hun : H h2.objs.size = none := I.hok.fresh hsz
  have I2 := (I.kept (t' := s.toks + ([("self" : Str), a].zip [Value.ref x, uv]).length + 1) kk).pins_of (pins' := [(h2.objs.size, mwO x)]) (fun p hp => by
    rw [List.mem_singleton.mp hp]
    exact ⟨hu, hun, fun z => absurd I.lt (by rw [← z]; exact Nat.not_lt.mpr hsz), I.nofs hsz, fun v z => by cases z⟩)
  show wpAny _ _ (callWith p3 (.ref h2.objs.size) [] (backTo p3 (starEach [e] (envF F fI s.heap.objs.size))) []) _ _ _
  have hst := he (envF F fI s.heap.objs.size)
  have run := pa.run p3 [(h2.objs.size, mwO x)] _ _ H (fun vs H' => H' = H ∧ ∃ u, vs = [u]) I2 (hta x v _ hv fun u => ⟨rfl, u, rfl⟩)
  have run : wpAny (model P w) (A.deeper (envF F fI s.heap.objs.size)) (spliced (backTo p3 (starEach [e] (envF F fI s.heap.objs.size)))) _ _ _ := run
  rw [hst] at run ⊢
  refine PySem.W.kxs_callWith (i := "ValueError.__init__") (x := x) rfl (Calls.evalArgs_plain (wpAny_mono run (fun us3 s3 h3 => ?_) fun _ _ z => z))
  obtain ⟨vs3, H3, I3, r3, hH, u3, rfl⟩ := h3
  rw [hH] at I3
  refine ⟨(I3.pin (h2.objs.size, mwO x) (by simp [ncx])).1, ?_⟩
  have hl3 : us3.length = 1 := r3.length.symm
  refine bound_init B.T I3 (I3.pin (h2.objs.size, mwO x) (by simp [ncx])).1 hx (by rw [List.nil_append, hl3, sizeLine_eq]; omega) (fun s4 I4 => ?_)
  have J := I4.pins_of (pins' := []) (fun p hp => by simp [ncx] at hp)
  have hka : (envF F fI s.heap.objs.size).kindOf a = some .local := S.par _ (List.mem_cons_of_mem _ List.mem_cons_self)
  have st2 := pss_one (ps_ost (f := f) (p' := p6) (pos := p8) (pe_var (X := ncx CX P w K mg base ["self", a, "__class__"] F fI A outer s H E) (i := 0) (x := "self") (pos := p5) rfl (.inl hkself)) (pe_var (i := 1) (x := a) (pos := p7) rfl (.inl hka) hd hcd))
  refine wpAt_of_wpAny (wpAny_mono (st2.run [] _ _ _ { nx := fun _ H' => Q .non H', rt := Q } J ?_) (fun fl s5 hs => ?_) fun _ _ z => z)
  · exact ⟨v, rfl, .ref x, rfl, x, C, rfl, B.T, B.no, .inl ⟨hx, fun d hd1 hd2 => hq d hd1 hd2⟩⟩
  · have fin : ∀ {σ' : L2.St} {H' : Hp} {v : V} {u : Value}, L2.Inv (ncx CX P w K mg base ["self", a, "__class__"] F fI A outer s H E) [] σ' H' s5 → L2.RelV v u → Q v H' → CE outer P w H s Q u s5 :=
      fun {σ' H' v u} J rv q => ⟨v, H', J.os, J.bare, J.base, J.hok, rv, q⟩
    cases fl with
    | ret u =>
      obtain ⟨v1, σ1, H1, J1, r1, q1⟩ := hs
      exact fin J1 r1 q1
    | next =>
      obtain ⟨σ1, H1, J1, q1⟩ := hs
      exact fin (v := V.non) (u := Value.none) J1 rfl q1
    | brk => obtain ⟨_, _, _, q1⟩ := hs; exact False.elim q1
    | cont => obtain ⟨_, _, _, q1⟩ := hs; exact False.elim q1
end GF

set_option maxHeartbeats 2000000
/-! raise of an own error with a field. -/
namespace GF
open PySem PySem.Spec PyProof.Rows L2 NdefX
section
variable {X : Cx} {CX : CXT} {x : Str} {e : Expr} {es : List Expr} {ta : TA} {p pos : Pos} {C fI : Addr} {k : Nat} {fd : FuncData} {ps : List Str} {sp : Sp}
/-- C(e, ..), C's __init__ keeping sp, while nothing is handled; its context is none -/
theorem pmkN (T : OexC X.K C) (own : PySem.W.findIn X.K (.ref C) "__init__" = some (some (.ref fI))) (isF : PySem.W.typeIn X.K (.ref fI) = some (.type "function")) (Fi : FnOk X.prog X.w X.K X.mg X.base CX k fI fd ps sp) (hr : Room (k + 1) X.A) (bi : Binds X.K fd ps []) (px : Passes CX X (fun _ _ _ => False))
    (hg : Gl X x) (hm : X.mg x = some (.ref C)) (ha : PA X (e :: es) ta) (hdb : (x == ("__debug__" : Str)) = false := by decide) (he : starEach (e :: es) X.env = (false, eval e X.env) :: starEach es X.env := by rfl) (hpl : (backTo pos (starEach es X.env)).any (·.1) = false := by rfl) :
    L2N.PMk X (.Call (.Name x p) (e :: es) [] pos) (tMkO C sp [] ta) := by
  intro pn0 s0 σ0 H0 Q0 J0 hh
  obtain ⟨n1, n2, n3, n4, n5, n6, n7, n8, n9, m0, m1, m2, m3, m4, m5, clsC, refsC⟩ := T.cls
  refine wpAny_Call_Name_kw (ld_glob J0 hg hm (PySem.W.callWith_K (h₀ := X.base) J0.ok.mod.kin T.kC (thn (ha.run pos pn0 s0 σ0 _ _ J0 hh) fun us0 s1 ⟨vs0, H1, J1, rr1, sz1, go1⟩ => ⟨J1.kIn, ?_⟩) he hpl) hdb)
  show wpAny (model X.prog X.w) _ (call (Value.ref C) us0) _ _ _
  obtain ⟨h0, gn, dw, tk, os0⟩ := s1
  have up : h0.objs.size ≤ h0.objs.size + 1 := Nat.le_succ _
  have fresh : H1 (h0.objs.size + 1) = none := J1.hok.fresh up
  have go2 := go1 (h0.objs.size + 1) fresh
  have keep : ∀ b o, h0.get? b = some o → ((h0.push (PySem.W.kdv_tup us0)).push (PySem.HandSPX.excO C h0.objs.size)).get? b = some o := fun b o q => Heap.get?_push_of_some _ (Heap.get?_push_of_some _ q)
  have there : ((h0.push (PySem.W.kdv_tup us0)).push (PySem.HandSPX.excO C h0.objs.size)).get? (h0.objs.size + 1) = some (PySem.HandSPX.excO C h0.objs.size) := by heap_get
  have J2 : L2.Inv X pn0 σ0 (upd H1 (h0.objs.size + 1) (exo (h0.objs.size + 1) C none)) ⟨(h0.push (PySem.W.kdv_tup us0)).push (PySem.HandSPX.excO C h0.objs.size), gn, dw, tk, os0⟩ := J1.laid (t' := tk) (a := h0.objs.size + 1) keep up (exo_ok there)
  rw [List.append_nil] at go2
  have rr2 : Vals (V.ref (h0.objs.size + 1) :: vs0) (Value.ref (h0.objs.size + 1) :: us0) := .cons rfl rr1
  have len2 : (Value.ref (h0.objs.size + 1) :: us0 ++ []).length = ps.length := by
    have q := rr2.length
    rw [Fi.len _ _ _ _ go2] at q
    rw [List.append_nil, ← q]
  have small : us0.length ≤ sizeLine := by
    have q := rr1.length
    rw [sizeLine_eq]
    omega
  have bi2 := bi _ (Value.ref (h0.objs.size + 1) :: us0) J2.kIn len2
  rw [List.append_nil] at bi2
  refine wpAny_call (PySem.HandSPX.call_own F.excBase_ValueError (fun Y => PySem.HandSPX.refsVE_contains Y n5 refsC) (J1.kIn _ _ clsC) (PySem.W.looks_findIn J1.kIn own) (fun self => PySem.W.bind_fn J1.kIn self isF) small (codeAny_mono (Fi.run _ X.stack _ _ ⟨_, []⟩ _ _ _ (fun _ _ _ => False) (hr.make C us0 []) (J2.env0.make C us0 []) bi2 rr2 go2) fun res s2 fin => ?_))
  cases res with
  | error er => exact px pn0 σ0 _ _ er s2 J2 fin
  | ok fl =>
    cases fl with
    | ret u =>
      obtain ⟨v, H2, os2, bare2, un2, hok2, rv, ev, d, fs, ea, ed, free1, go3⟩ := fin
      subst ev
      obtain ⟨h2, gn2, dw2, tk2, os2'⟩ := s2
      obtain ⟨t0, G, J3, kG, away, at2, na⟩ := mk_end0 (d2 := dw2) (t2 := tk2) J1 up keep un2 hok2 os2 bare2 ea ed free1
      refine ⟨rv, h0.objs.size + 1, _, _, ⟨G, gn2, dw2, tk2, os2'⟩, _, .ref C, some d, rfl, J3, kG, away, at2, ⟨rfl, rfl, fun vs hv => ?_⟩, rfl, rfl, na, rfl, bare2, raises_own T.exC T.tyC, go3⟩
      cases hv
      rfl
    | next => exact fin.elim
    | brk => exact fin.elim
    | cont => exact fin.elim
end
end GF

set_option maxHeartbeats 2000000
/-! raise X(e), X with a field; try: return e, except X as n: return n.f. -/
namespace GF
open PySem PySem.Spec PyProof.Rows L2 NdefX
/-- what an __init__ of one field keeps -/
def spI (C : Addr) (f : Str) : Sp := fun vs H Q _ => ∃ x v, vs = [.ref x, v] ∧ (∃ i : Int, v = .int i ∧ i.natAbs.log2 < 1920) ∧ H x = some (exo x C none) ∧ ∀ d, H d = none → d ≠ x → Q .non (upd (upd H d (exd d [(f, v)])) x (exo x C (some d)))
/-- an own class over ValueError whose __init__ keeps one field -/
structure ExcF (P : Program) (w : World) (K : PySem.W.Frag) (mg : Str → Option Value) (base : Heap) (x f : Str) : Prop where
  ex : ∃ C fI fd a, mg x = some (.ref C) ∧ OexC K C ∧ PySem.W.findIn K (.ref C) "__init__" = some (some (.ref fI)) ∧ PySem.W.typeIn K (.ref fI) = some (.type "function") ∧ FnOk P w K mg base (L2N.CX P w) 1 fI fd ["self", a] (spI C f) ∧ Binds K fd ["self", a] [] ∧
    XfC K C ∧ PySem.W.findIn K (.ref C) f = some none ∧ PySem.W.exmOne K (.ref C) (.ref C) = some true
def sRaiseF (x f : Str) (fe : FE) : FS := fun ρ μ => toS (fe ρ μ) ρ fun s μ' => match s with
  | .d (.int i) => if i.natAbs.log2 < 1920 then .exc ⟨x, [(f, .int i)]⟩ ρ μ' else .stk
  | _ => .stk
theorem spI_len {C : Addr} {f : Str} {vs : List V} {H : Hp} {Q : VK} {E : XK} (h : spI C f vs H Q E) : vs.length = 2 := by
  obtain ⟨x, v, e, _⟩ := h
  rw [e]; rfl
section
variable {X : Cx} {W : WX} {x f : Str} {e : Expr} {p pos pos' : Pos} {fe : FE}
theorem ds_raiseF {k : Nat} (hc : X.calm = true) (tk : L2N.Takes X W) (hr : Room (k + 2) X.A) (B : ExcF X.prog X.w X.K X.mg X.base x f) (he : DE X W e fe) (hg : Gl X x := by rfl) (hdb : (x == ("__debug__" : Str)) = false := by decide)
    (hs : starEach [e] X.env = (false, eval e X.env) :: starEach [] X.env := by rfl) : DS X W (.Raise (some (.Call (.Name x p) [e] [] pos)) none pos') (sRaiseF x f fe) := by
  obtain ⟨C, fI, fd, a, gC, T, own, isF, Fi, bi, _, _, _⟩ := B.ex
  obtain ⟨te, pe, qe⟩ := he.ex
  have px : Passes (L2N.CX X.prog X.w) X (fun _ _ _ => False) := L2N.passes_call tk fun _ _ _ _ z => z.elim
  refine .in ⟨_, L2N.ps_raise hc tk (pmkN T own isF Fi (hr.mono (by omega)) bi px hg gC (pa_cons pe pa_nil hs) hdb hs), fun σ H m ρ μ D M rr h => ?_⟩
  unfold sRaiseF at h
  refine qe σ H m ρ μ _ M rr (toS_wp rr h fun s v μ' H' m' ext M' r' h' => ?_)
  split at h'
  · rename_i i
    split at h'
    · rename_i hi
      cases (show Is X.K X.mg m'.fr (.int i) v from r')
      refine ⟨(by show (1 : Nat) ≤ 1000; decide), fun z hz => ?_⟩
      refine ⟨z, .int i, rfl, ⟨i, rfl, hi⟩, upd_same, fun d hd1 hd2 => ⟨rfl, d, [(f, .int i)], upd_same, ?_, ?_, ?_⟩⟩
      · rw [upd_ne hd2, upd_same]
      · rw [upd_ne hd2] at hd1
        exact hd1
      · rw [upd_ne hd2] at hd1
        have e1 : upd (del (upd (upd (upd H' z (exo z C none)) d (exd d [(f, .int i)])) z (exo z C (some d))) z) d (.xd [(f, .int i)]) = upd H' d (.xd [(f, .int i)]) := by
          funext b
          by_cases hb : b = d
          · subst hb
            rw [upd_same, upd_same]
          · rw [upd_ne hb, upd_ne hb]
            by_cases hz2 : b = z
            · subst hz2
              rw [del_same, hz]
            · rw [del_ne hz2, upd_ne hz2, upd_ne hb, upd_ne hz2]
        rw [e1]
        have M2 := M'.side (o := .xd [(f, .int i)]) (M'.free hd1) (M'.nin hd1) (M'.fix.free hd1) (by rw [hd1]; exact loose_none)
        exact h' _ _ σ _ m' .refl M2 (rr.mono ext) ⟨C, gC, rfl, .inr ⟨by simp, d, _, rfl, upd_same, .int i, [], rfl, .int i, rfl⟩⟩
    · exact h'.elim
  · exact h'.elim
end
/-- try: return e  except x as n: return n.f -/
def sTryF (x f : Str) (i : Nat) (fb : FE) : FS := fun ρ μ => match fb ρ μ with
  | .stk => .stk
  | .ok s μ' => .rt s μ'
  | .exc ex μ' => if ex.cls = x ∧ i < ρ.length then (match ex.fs.lookup f with
    | some d => .rt (.d d) μ'
    | none => .stk) else .stk
theorem fs_look {K : PySem.W.Frag} {mg : Str → Option Value} {F : Hp} {f : Str} {d : D} : ∀ {l : List (Str × D)} {vs : List (Str × V)}, FsIs K mg F l vs → l.lookup f = some d → ∃ v, vs.lookup f = some v ∧ Is K mg F d v
  | (y, d') :: r, vs, h, q => by
    obtain ⟨v, vs', rfl, h1, h2⟩ := h
    rw [List.lookup_cons] at q ⊢
    cases z : f == y with
    | true =>
      rw [z] at q
      cases q
      exact ⟨v, rfl, h1⟩
    | false =>
      rw [z] at q
      exact fs_look h2 q
section
variable {X : Cx} {W : WX} {x f n : Str} {i : Nat} {e : Expr} {p p2 p3 p4 p5 p6 p7 : Pos} {fb : FE}
theorem ds_tryF (hs : X.stack = X.env :: X.outer) (hf : X.env.frame = some X.env.locals) (hN : X.N.Nodup) (hi : X.N[i]? = some n) (hln : X.env.kindOf n = some .local) (tk : L2N.Takes X W) (B : ExcF X.prog X.w X.K X.mg X.base x f) (hg : Gl X x)
    (hb : ∀ (W : WX) (pn : List (Addr × Obj)) (xe : Value → Shared → Prop), L2N.Takes (X.tr pn xe) W → DE (X.tr pn xe) W e fb) (hdx : (x == ("__debug__" : Str)) = false := by decide) (hdn : (n == ("__debug__" : Str)) = false := by decide) (hcn : (n == ("__classdict__" : Str)) = false := by decide) :
    DS X W (.Try [.Return (some e) p] [.ExceptHandler (some (.Name x p2)) (some n) [.Return (some (.Attribute (.Name n p3) f p4)) p5] p6] [] [] p7) (sTryF x f i fb) := by
  obtain ⟨C, fI, fd, a, gC, T, own, isF, Fi, bi, XF, hno, hex⟩ := B.ex
  refine .in ⟨_, L2N.ps_try_as (i := i) (c := .ref C) (Wout := W) (tb := fun W D σ H => tE X.K X.mg W fb σ H D.rt) (ts := fun a cls d D σ H => tXf a cls d C f (tVar i) σ H D.rt) hs hf hN hi hln ⟨hg, hdx, .inl gC⟩ tk (fun W pn xe tk2 _ => pss_one (ps_ret (hb W pn xe tk2).pe)) (fun a oe cls d pn hz hdat => ?_), fun σ H m ρ μ D M rr h => ?_⟩
  · exact pss_one (ps_ret (pe_xf XF hno hz.zc hdat (pe_var hi (.inl hln) hdn hcn)))
  · refine ⟨m, ρ, μ, M, rr, ?_⟩
    unfold sTryF at h
    cases eo : fb ρ μ with
    | stk => rw [eo] at h; exact h.elim
    | ok s μ' => rw [eo] at h; exact h
    | exc ex μ' =>
      rw [eo] at h
      dsimp only at h
      split at h
      · rename_i hx
        obtain ⟨hx, hil0⟩ := hx
        split at h
        · rename_i d hd
          intro cls dd H' m' ext M' q
          obtain ⟨C2, mC2, rfl, q⟩ := q
          rw [hx, gC] at mC2
          cases mC2
          rcases q with ⟨z, _⟩ | ⟨_, da, vs, rfl, hda, hfs⟩
          · rw [z] at hd; cases hd
          · obtain ⟨v, hv1, hv2⟩ := fs_look hfs hd
            refine ⟨true, hex, fun _ a ha => ?_, fun z => by cases z⟩
            have hil : i < σ.length := by
              rw [rr.len]
              exact hil0
            exact ⟨.ref a, by rw [List.getElem?_set_self hil], rfl, rfl, da, vs, v, rfl, hda, hv1, h v H' m' ext M' hv2⟩
        · exact h.elim
      · exact h.elim
end
end GF

set_option maxHeartbeats 2000000
/-! Dicts by texts, enumerate, split, texts of ints. -/
namespace GF
open PySem PySem.Spec PyProof.Rows L2
section
variable {K : PySem.W.Frag} {mg : Str → Option Value} {F H : Hp}
/-! ### split, str -/
theorem snd_split : SndM K mg (fun x xs H Q => ∃ a b, x = .str a ∧ xs = [.str b] ∧ (b.length == 0) = false ∧ a.length + 2 ≤ sizeLine ∧ rNewStrs (Txt.split a b) H Q) splitD := by
  intro F H x b y z Q sm rb hg G
  unfold splitD at hg
  split at hg
  · rename_i b'
    split at hg
    · rename_i hc
      cases hg
      refine ⟨x, b', rfl, by rw [rb.str], hc.1, ?_, fun p hp => ?_⟩
      · rw [sizeLine_eq]
        have := hc.2
        unfold cap at this
        omega
      · exact G.2 p (.lst ((Txt.split x b').map V.str)) (.ref p) hp (.lst upd_same (isA_strs _)) (fun _ z => by cases z)
    · cases hg
  · cases hg
def strD : List D → Option D
  | [.int i] => if i.natAbs.log2 < 1920 then some (.str (toString i)) else none
  | _ => none
theorem snd_str : SndC K mg (fun xs H Q => ∃ i : Int, xs = [.int i] ∧ i.natAbs.log2 < 1920 ∧ Q (.str (toString i)) H) strD := by
  intro F H xs ds z Q sm ra hg G
  unfold strD at hg
  split at hg
  · rename_i i
    split at hg
    · rename_i hi
      cases hg
      obtain ⟨v, rfl, r1⟩ := vwA1 ra
      exact ⟨i, by rw [r1.int], hi, G.1 _ (.str _)⟩
    · cases hg
  · cases hg
/-! ### dicts -/
theorem look_is : ∀ {ks : List Str} {l : List D} {vs : List V} (k : Str), IsA K mg F l vs → ((∃ d v, (ks.zip l).lookup k = some d ∧ (ks.zip vs).lookup k = some v ∧ Is K mg F d v) ∨ ((ks.zip l).lookup k = none ∧ (ks.zip vs).lookup k = none))
  | [], _, _, k, _ => .inr ⟨by simp, by simp⟩
  | _ :: _, _, _, k, .nil => .inr ⟨by simp, by simp⟩
  | k' :: ks, d :: l, v :: vs, k, .cons h q => by
    rw [List.zip_cons_cons, List.zip_cons_cons, List.lookup_cons, List.lookup_cons]
    cases e : k == k' with
    | true => exact .inl ⟨d, v, rfl, rfl, h⟩
    | false => exact look_is k q
def dnotD : D → D → Option D
  | .str k, .dic ks l => some (.bl (!((ks.zip l).lookup k).isSome))
  | _, _ => none
def dgetD : D → D → Option D
  | .dic ks l, .str k => (ks.zip l).lookup k
  | _, _ => none
theorem dic_at {ks : List Str} {l : List D} {v : V} (sm : Same F H) (h : Vw K mg F H (.dic ks l) v) : ∃ a kvs vs, v = .ref a ∧ H a = some (.dK kvs) ∧ (∀ k : Str, valV kvs (Sum.inr k) = (ks.zip vs).lookup k) ∧ IsA K mg F l vs := by
  cases h with
  | of h => cases h with | dic h q r => exact ⟨_, _, _, rfl, sm _ _ h, q, r⟩
def rDN : R2 := fun x y H Q => ∃ a o, y = .ref a ∧ DGet H a x o ∧ Q (.bl (!o.isSome)) H
theorem snd_dnot : Snd2 K mg rDN dnotD := by
  intro F H x y a b z Q sm ra rb hg G
  unfold dnotD at hg
  split at hg
  · rename_i k ks l
    cases hg
    obtain ⟨p, kvs, vs, rfl, hp, hl, ia⟩ := dic_at sm rb
    obtain rfl := ra.str
    refine ⟨p, valV kvs (Sum.inr k), rfl, DGet.k (k := Sum.inr k) hp, ?_⟩
    rw [hl k]
    rcases look_is (ks := ks) k ia with ⟨d, v, e1, e2, _⟩ | ⟨e1, e2⟩
    · rw [e1] at G; rw [e2]; exact G.1 _ (.bl _)
    · rw [e1] at G; rw [e2]; exact G.1 _ (.bl _)
  · cases hg
def rDG : R2 := fun x y H Q => ∃ a v, x = .ref a ∧ DGet H a y (some v) ∧ Q v H
theorem snd_dget : Snd2 K mg rDG dgetD := by
  intro F H x y a b z Q sm ra rb hg G
  unfold dgetD at hg
  split at hg
  · rename_i ks l k
    obtain ⟨p, kvs, vs, rfl, hp, hl, ia⟩ := dic_at sm ra
    obtain rfl := rb.str
    rcases look_is (ks := ks) k ia with ⟨d, v, e1, e2, e3⟩ | ⟨e1, e2⟩
    · rw [e1] at hg
      cases hg
      refine ⟨p, v, rfl, ?_, G.1 v e3⟩
      rw [← e2, ← hl k]
      exact DGet.k (k := Sum.inr k) hp
    · rw [e1] at hg; cases hg
  · cases hg
/-- dict([(k, v), ..]), the keys texts that differ -/
def pairsD : List D → Option (List Str × List D)
  | [] => some ([], [])
  | .tup [.str k, d] :: l => (pairsD l).map fun p => (k :: p.1, d :: p.2)
  | _ => none
def dictD : List D → Option D
  | [.lst l] => (match pairsD l with
    | some p => if p.1.Nodup then some (.dic p.1 p.2) else none
    | none => none)
  | _ => none
theorem pairs_len : ∀ {l : List D} {p : List Str × List D}, pairsD l = some p → p.1.length = p.2.length
  | [], p, h => by cases h; rfl
  | x :: l, p, h => by
    unfold pairsD at h
    split at h
    · rename_i e; cases e
    · rename_i k d l' e
      cases e
      cases z : pairsD l with
      | none => rw [z] at h; cases h
      | some q =>
        rw [z] at h
        cases h
        show q.1.length + 1 = q.2.length + 1
        rw [pairs_len z]
    · cases h
theorem pairs_is : ∀ {l : List D} {p : List Str × List D} {ws : List V}, Same F H → pairsD l = some p → IsA K mg F l ws → ∃ (ads : List Addr) (vs : List V), ws = ads.map V.ref ∧ IsA K mg F p.2 vs ∧ Paired (fun q kv => SqT K H q [kV kv.1, kv.2]) ads ((p.1.zip vs).map fun q => ((Sum.inr q.1 : Key), q.2))
  | [], p, ws, sm, h, ia => by
    cases h
    cases ia
    exact ⟨[], [], rfl, .nil, .nil⟩
  | x :: l, p, ws, sm, h, ia => by
    unfold pairsD at h
    split at h
    · rename_i e; cases e
    · rename_i k d l' e
      cases e
      cases z : pairsD l with
      | none => rw [z] at h; cases h
      | some q =>
        rw [z] at h
        cases h
        cases ia with
        | cons a ia =>
          obtain ⟨ads, vs, rfl, i2, pr⟩ := pairs_is sm z ia
          cases a with
          | tup hs ht =>
            cases ht with
            | cons h1 ht =>
              cases h1
              cases ht with
              | cons h2 ht =>
                cases ht
                exact ⟨_ :: ads, _ :: vs, rfl, .cons h2 i2, .cons (Same.sqt sm hs) pr⟩
    · cases h
theorem merge_look : ∀ (ks : List Str) (vs : List V) (acc : List (Key × V)) (k : Str), ks.Nodup → valV (mergeK acc ((ks.zip vs).map fun q => ((Sum.inr q.1 : Key), q.2))) (Sum.inr k) = match (ks.zip vs).lookup k with
    | some v => some v
    | none => valV acc (Sum.inr k)
  | [], vs, acc, k, _ => by simp [mergeK]
  | k' :: ks, [], acc, k, _ => by simp [mergeK]
  | k' :: ks, v :: vs, acc, k, nd => by
    have nd2 := List.nodup_cons.mp nd
    have ih := merge_look ks vs (putK acc (Sum.inr k') v) k nd2.2
    rw [List.zip_cons_cons, List.map_cons, List.lookup_cons]
    have e1 : mergeK acc (((Sum.inr k' : Key), v) :: (ks.zip vs).map fun q => ((Sum.inr q.1 : Key), q.2)) = mergeK (putK acc (Sum.inr k') v) ((ks.zip vs).map fun q => ((Sum.inr q.1 : Key), q.2)) := rfl
    rw [e1, ih, valV_put]
    by_cases e : k = k'
    · subst e
      have no : (ks.zip vs).lookup k = none := by
        rw [List.lookup_eq_none_iff]
        intro q hq
        have := (List.of_mem_zip hq).1
        rw [bne_iff_ne]
        intro z
        exact nd2.1 (by rw [z]; exact this)
      rw [no, if_pos rfl, show (k == k) = true by simp]
    · rw [if_neg (fun z => e (Sum.inr.inj z)), show (k == k') = false from beq_eq_false_iff_ne.mpr e]
theorem snd_dict : SndC K mg (fun xs H Q => ∃ (a : Addr) (ps : List Addr) (kvs : List (Key × V)), xs = [.ref a] ∧ SqL K H a (ps.map V.ref) ∧ Paired (fun p kv => SqT K H p [kV kv.1, kv.2]) ps kvs ∧ ∀ p, H p = none → Q (.ref p) (upd H p (.dK (mergeK [] kvs)))) dictD := by
  intro F H xs ds z Q sm ra hg G
  unfold dictD at hg
  split at hg
  · rename_i l
    split at hg
    · rename_i p hp
      split at hg
      · rename_i nd
        cases hg
        obtain ⟨v, rfl, r1⟩ := vwA1 ra
        obtain ⟨a, ws, rfl, ha, ia⟩ := r1.lst sm
        obtain ⟨ads, vs, rfl, i2, pr⟩ := pairs_is sm hp ia
        refine ⟨a, ads, _, rfl, SqL.of ha, pr, fun q hq => ?_⟩
        have fq : F q = none := by
          cases e : F q with
          | none => rfl
          | some o => rw [sm _ _ e] at hq; cases hq
        refine G.2 q (.dK (mergeK [] ((p.1.zip vs).map fun q => ((Sum.inr q.1 : Key), q.2)))) (.ref q) hq (.dic upd_same (fun k => ?_) (i2.mono (same_add fq _))) (fun _ z => by cases z)
        rw [merge_look _ _ _ _ nd]
        cases (p.1.zip vs).lookup k <;> rfl
      · cases hg
    · cases hg
  · cases hg
end
section
variable {X : Cx} {W : WX} {o e k : Expr} {f1 f2 : FE} {pos apos p : Pos}
theorem de_split (ha : DE X W o f1) (hb : DE X W e f2) (hs : starEach [e] X.env = [(false, eval e X.env)] := by rfl) (hbase : attributeBase o "split" X.env (eval o X.env) = eval o X.env := by rfl) (hline : (apos.endLine == pos.line) = true := by rfl) :
    DE X W (.Call (.Attribute o "split" apos) [e] [] pos) (eMt splitD f1 f2) := by
  obtain ⟨ta, pa, qa⟩ := ha.ex
  obtain ⟨tb, pb, qb⟩ := hb.ex
  exact .in ⟨_, pe_split pa pb hs hbase hline, fun σ H m ρ μ Q M rr h => m1_sound snd_split qa qb M rr h⟩
theorem dt_dnot (hu : X.A.units + 1 < cLine) (ha : DE X W k f1) (hb : DE X W o f2) (hm : behindInMarks .NotIn o = false := by rfl) : DT X W (.Compare k [.NotIn] [o] pos) (bT (eOp dnotD f1 f2)) := by
  obtain ⟨ta, pa, qa⟩ := ha.ex
  obtain ⟨tb, pb, qb⟩ := hb.ex
  refine .in ⟨_, pt_cmp (pc_dnotin hu pa pb) hm, fun σ H m ρ μ Q M rr h => ?_⟩
  exact de_bin (R := fun x y H2 => rDN x y H2 fun v H' => ∃ b, v = .bl b ∧ Q b H') qa qb M rr (asB_wp h) fun x y a b μ2 H2 m2 _ M2 r1 r2 h2 => snd2_at snd_dnot M2 r1 r2 h2
theorem de_dget (hu : X.A.units + 1 < cLine) (ha : DE X W o f1) (hb : DE X W k f2) (hs : NoSl k) : DE X W (.Subscript o k pos) (eOp dgetD f1 f2) := by
  obtain ⟨ta, pa, qa⟩ := ha.ex
  obtain ⟨tb, pb, qb⟩ := hb.ex
  refine .in ⟨_, pe_dget hu pa pb hs, fun σ H m ρ μ Q M rr h => ?_⟩
  exact de_bin (R := fun x y H2 => rDG x y H2 Q) qa qb M rr h fun x y a b μ2 H2 m2 _ M2 r1 r2 h2 => snd2_at snd_dget M2 r1 r2 h2
theorem du_of {k : Nat} {A : Around} (hr : Room k A) : A.units + 1 < cLine := by have := hr.un; omega
/-! ### enumerate -/
def enumD (i : Nat) : List D → List D
  | [] => []
  | d :: l => .tup [.int i, d] :: enumD (i + 1) l
theorem enumD_len : ∀ (l : List D) (i : Nat), (enumD i l).length = l.length
  | [], _ => rfl
  | _ :: l, i => by unfold enumD; rw [List.length_cons, List.length_cons, enumD_len l]
theorem enumD_get : ∀ (l : List D) (i j : Nat), (enumD i l)[j]? = (l[j]?).map fun d => .tup [.int (i + j : Nat), d]
  | [], _, _ => by simp [enumD]
  | d :: l, i, 0 => by simp [enumD]
  | d :: l, i, j + 1 => by
    unfold enumD
    rw [List.getElem?_cons_succ, List.getElem?_cons_succ, enumD_get l (i + 1) j, show i + 1 + j = i + (j + 1) by omega]
theorem walks_enum {K : PySem.W.Frag} {mg : Str → Option Value} {a : Addr} {l : List D} {vs : List V} {F : Hp} (h : F a = some (.lst vs)) (r : IsA K mg F l vs) : Walks K mg (Ite K a) (enumD 0 l) F := by
  refine ⟨fun i H F2 s1 s2 hi => ?_, fun i H F2 s1 s2 hi => ⟨vs, SqL.of (s2 _ _ (s1 _ _ h)), by rw [← r.length, ← enumD_len l 0]; exact hi⟩, fun i H m2 μ x H' d s1 M hd y => ?_⟩
  · rw [enumD_len] at hi
    exact ⟨vs, vs[i]'(by rw [← r.length]; exact hi), SqL.of (s2 _ _ (s1 _ _ h)), by simp [r.length ▸ hi]⟩
  · obtain ⟨T, w, rfl, hT, rfl, y⟩ := y
    rw [enumD_get] at hd
    cases e : l[i]? with
    | none => rw [e] at hd; cases hd
    | some d' =>
      rw [e] at hd
      cases hd
      obtain ⟨v, h1, h2⟩ := r.get e
      have := y vs (SqL.of (M.sub _ _ (s1 _ _ h)))
      have ew : v = w := Option.some.inj (h1.symm.trans this)
      rw [ew] at h2
      have nf := M.free hT
      have M2 := M.side (o := .tup [.int (i : Nat), w]) nf (M.nin hT) (M.fix.free hT) (by rw [hT]; exact loose_none)
      refine ⟨_, ext_add nf _, M2.settle upd_same nf (M.nin hT) (M.fix.free hT), ?_⟩
      refine .tup (SqT.of upd_same) (.cons ?_ (.cons ((h2.mono s1).mono (same_add nf _)) .nil))
      rw [Nat.zero_add]
      exact .int _
def iEnm (f : FE) : FI := fun ρ μ => (f ρ μ).bind fun s μ1 => match s with
  | .d (.lst l) => .ok (enumD 0 l) μ1
  | _ => .stk
theorem di_enm {elts : List Expr} {kk : Nat} {tpos : Pos} (hm : X.mg "enumerate" = none) (he : DE X W e f1) (hg : Gl X "enumerate" := by rfl) (hs : starEach [e] X.env = [(false, eval e X.env)] := by rfl) : DI X W (.Tuple elts kk tpos) (.Call (.Name "enumerate" p) [e] [] pos) (iEnm f1) := by
  obtain ⟨te, pe, qe⟩ := he.ex
  refine .in ⟨_, pi_enum hg hm (pa_cons pe pa_nil hs) hs, fun σ H m ρ μ R M rr h => qe σ H m ρ μ _ M rr ?_⟩
  have h : wpI X.K X.mg m ((f1 ρ μ).bind fun s μ1 => match s with
    | .d (.lst l) => .ok (enumD 0 l) μ1
    | _ => .stk) R _ := h
  cases e1 : f1 ρ μ with
  | stk => rw [e1] at h; exact h
  | exc x μ' => rw [e1] at h; exact h
  | ok s μ1 =>
    rw [e1] at h
    intro v H1 m1 x1 M1 r1
    rw [bind_ok] at h
    cases s with
    | c k => exact h.elim
    | d d =>
      cases d with
      | lst l =>
        have r1 : Is X.K X.mg m1.fr (.lst l) v := r1
        cases r1 with
        | lst ha ia => exact ⟨_, _, rfl, SqL.of (M1.sub _ _ ha), h _ H1 m1 x1 M1 (walks_enum ha ia)⟩
      | _ => exact h.elim
/-! ### f"{a}{b}" -/
def fmtS : S → Option Str
  | .d (.str y) => if y.length ≤ cap then some y else none
  | .d (.int i) => if i.natAbs.log2 < 1920 then some (toString i) else none
  | _ => none
def eFs2 (f1 f2 : FE) : FE := fun ρ μ => (f1 ρ μ).bind fun a μ1 => match fmtS a with
  | none => .stk
  | some y1 => if (Str.empty ++ y1).length ≤ cap then (f2 ρ μ1).bind fun b μ2 => match fmtS b with
    | none => .stk
    | some y2 => if (Str.empty ++ y1 ++ y2).length ≤ cap then .ok (.d (.str (Str.empty ++ y1 ++ y2))) μ2 else .stk
    else .stk
theorem fmt_at {K : PySem.W.Frag} {mg : Str → Option Value} {m : Mc} {s : S} {v : V} {y : Str} {Q : V → Hp → Prop} {H : Hp} (r : SIs K mg m s v) (hy : fmtS s = some y) (q : Q (.str y) H) : (∃ z : Str, v = .str z ∧ z.length ≤ sizeLine ∧ Q (.str z) H) ∨ ∃ i : Int, v = .int i ∧ i.natAbs.log2 < 1920 ∧ Q (.str (toString i)) H := by
  unfold fmtS at hy
  split at hy
  · rename_i z
    split at hy
    · rename_i hz
      cases hy
      cases (show Is K mg m.fr (.str y) v from r)
      exact .inl ⟨y, rfl, cap_line hz, q⟩
    · cases hy
  · rename_i i
    split at hy
    · rename_i hi
      cases hy
      cases (show Is K mg m.fr (.int i) v from r)
      exact .inr ⟨i, rfl, hi, q⟩
    · cases hy
  · cases hy
theorem de_fs2 {e1 e2 : Expr} {q1 q2 : Pos} (ha : DE X W e1 f1) (hb : DE X W e2 f2) : DE X W (.JoinedStr [.FormattedValue e1 (-1) none q1, .FormattedValue e2 (-1) none q2] pos) (eFs2 f1 f2) := by
  obtain ⟨ta, pa, qa⟩ := ha.ex
  obtain ⟨tb, pb, qb⟩ := hb.ex
  refine .in ⟨_, pe_joined (.cons (pe_fmt pa) (.cons (pe_fmt pb) .nil)), fun σ H m ρ μ Q M rr h => ?_⟩
  refine qa σ H m ρ μ _ M rr (wpE_bind h fun a v μ1 H1 m1 x1 M1 r1 h1 => ?_)
  split at h1
  · exact h1.elim
  · rename_i y1 hy1
    split at h1
    case isFalse => exact h1.elim
    rename_i hc1
    refine fmt_at (Q := fun x H1 => ∃ y, x = .str y ∧ (Str.empty ++ y).length ≤ sizeLine ∧ tJs [tFmt tb] (Str.empty ++ y) σ H1 fun out H1 => Q (.str out) H1) r1 hy1 ?_
    refine ⟨y1, rfl, cap_line hc1, qb σ H1 m1 ρ μ1 _ M1 (rr.mono x1) (wpE_bind h1 fun b w μ2 H2 m2 x2 M2 r2 h2 => ?_)⟩
    · split at h2
      · exact h2.elim
      · rename_i y2 hy2
        split at h2
        · rename_i hc
          refine fmt_at (Q := fun x H1 => ∃ y, x = .str y ∧ (Str.empty ++ y1 ++ y).length ≤ sizeLine ∧ tJs [] (Str.empty ++ y1 ++ y) σ H1 fun out H1 => Q (.str out) H1) r2 hy2 ⟨y2, rfl, cap_line hc, ?_⟩
          exact h2 (.str _) H2 m2 .refl M2 (.str _)
        · exact h2.elim
end
end GF

set_option maxHeartbeats 2000000
/-! What the written part says of an error with a field. -/
namespace GF
open PySem PySem.Spec PyProof.Rows L2 NdefX
def clsM (st : Stmt) (j : Nat) : Stmt := match st with
  | .ClassDef _ _ _ body _ _ _ _ _ _ _ => body.getD j (.Pass ⟨0, 0, 0, 0⟩)
  | _ => .Pass ⟨0, 0, 0, 0⟩
/-- f"m{a}" -/
theorem pa_msg {X : Cx} {a m : Str} {i j : Nat} {q1 q2 q3 q4 : Pos} (hN : X.N[i]? = some a) (hv : Vis X.env.scope a) (hd : (a == ("__debug__" : Str)) = false) (hcd : (a == ("__classdict__" : Str)) = false) (hs : starEach [.JoinedStr [.Constant (.str m) j q1, .FormattedValue (.Name a q2) (-1) none q3] q4] X.env = (false, eval (.JoinedStr [.Constant (.str m) j q1, .FormattedValue (.Name a q2) (-1) none q3] q4) X.env) :: starEach [] X.env) :
    ∃ ta, PA X [.JoinedStr [.Constant (.str m) j q1, .FormattedValue (.Name a q2) (-1) none q3] q4] ta ∧ ∀ (σ : L2.St) (H : Hp) (Q : List V → Hp → Prop) (n : Int), σ[i]? = some (some (.int n)) → n.natAbs.log2 < 1920 → m.length ≤ 1000 → (∀ u, Q [u] H) → ta σ H Q := by
  refine ⟨_, pa_cons (pe_joined (.cons pe_str (.cons (pe_fmt (pe_var hN hv hd hcd)) .nil))) pa_nil hs, fun σ H Q n h1 h2 h3 h4 => ?_⟩
  have l1 := int_text_length_le (k := 1920) (by decide) h2
  refine ⟨m, rfl, ?_, .int n, h1, .inr ⟨n, rfl, h2, _, rfl, ?_, h4 _⟩⟩
  · rw [Str.length_append, sizeLine_eq, show Str.empty.length = 0 from rfl]
    omega
  · rw [Str.length_append, Str.length_append, sizeLine_eq, show Str.empty.length = 0 from rfl]
    have l2 : (Str.ofString (toString n)).length = (toString n).length := PySem.ofString_length _
    omega
theorem excF_of {P : Program} {w : World} {K : PySem.W.Frag} {mg : Str → Option Value} {base : Heap} {x f a m : Str} {C fI cda cc : Addr} {st : Stmt} {qual : Str} {dV kV doc pm ct oc oc2 oc3 : Value} {an od od2 od3 : Option Addr} {osl sl2 sl3 : Array (Option Value)} {vs : Array Value} {file : Str} {tf : Tok}
    {n1 n2 : Str} {n3 : Addr} {n4 n5 : List Value} {n6 : List Str} {n7 : List Value} {n8 : Bool} {n9 : Option Bool} {m0 : Option Addr} {m1 m2 m3 m4 m5 : Option Value} {p0 p1 p2 p3 p4 p5 p6 p7 p8 q1 q2 q3 q4 : Pos} {j : Nat}
    (hm : mg x = some (.ref C)) (hC : K.lookup C = some (excClassObj n1 n2 C n3 n4 n5 true n6 n7 n8 n9 m0 m1 m2 m3 m4 m5 "ValueError.__new__")) (hr : PySem.HandSPX.refsVE n5 = true) (hsa : PySem.W.findIn K (.ref C) "__setattr__" = some (some (.builtin "object.__setattr__"))) (hbe : PySem.W.subIn K (.ref C) (.type "BaseException") = some true)
    (hty : PySem.W.typeIn K (.ref C) = some (.type "type")) (hkc : PySem.W.keepIn K (.ref C) = true) (own : PySem.W.findIn K (.ref C) "__init__" = some (some (.ref fI))) (isF : PySem.W.typeIn K (.ref fI) = some (.type "function"))
    (hf : K.lookup fI = some ⟨oc, od, .func (PySem.W.ksFn "__init__" qual (defArgs st) (defBody st) (defScope st) dV kV doc pm an (.ref cda) ct cc), osl⟩) (hcd : PySem.W.codeIn K (.ref cda) qual = true)
    (hcode : K.lookup cda = some ⟨oc2, od2, .fields vs, sl2⟩) (hvs : vs[2]? = some (.str file tf)) (hfile : ((P.main.file : Str) == file) = true) (hcell : K.lookup cc = some ⟨oc3, od3, .cell (some (.ref C)), sl3⟩)
    (hal : PySem.W.alongIn K "__init__" n5 = some (some (.builtin "ValueError.__init__"))) (hsub : PySem.W.mroIn K C (.ref C) = some true) (hve : PySem.W.subIn K (.ref C) (.type "ValueError") = some true) (hop : PySem.W.nsIn K cStatics "thirdparty.any" = some none) (hsup : mg "super" = none)
    (htop : (P.main.scope.names.lookup ("super" : Str)).isSome = false) (hno : PySem.W.findIn K (.ref C) f = some none) (hxf : xfB K C = true) (hex : PySem.W.exmOne K (.ref C) (.ref C) = some true)
    (hpar : ((defArgs st).posonlyargs ++ (defArgs st).args).head?.map (·.arg) = some "self") (hbind : ∀ us : List Value, us.length = 2 → bindArgs (PySem.W.ksFn "__init__" qual (defArgs st) (defBody st) (defScope st) dV kV doc pm an (.ref cda) ct cc) ⟨us, []⟩ = pure ([("self" : Str), a].zip us)) (hsc : nscB ["self", a, "__class__"] ["self", a] ["__class__"] (defScope st) = true)
    (hks : (defScope st).names.lookup ("super" : Str) = some .globalImplicit) (hbody : defBody st = initBody f a (.JoinedStr [.Constant (.str m) j q1, .FormattedValue (.Name a q2) (-1) none q3] q4) p0 p1 p2 p3 p4 p5 p6 p7 p8) (hml : m.length ≤ 1000)
    (hda : (a == ("__debug__" : Str)) = false) (hca : (a == ("__classdict__" : Str)) = false) (has : a ≠ "self") (pl : Env → Sem Bool)
    (hev : ∀ env, eval (.Call (.Attribute (.Call (.Name "super" p0) [] [] p1) "__init__" p2) [.JoinedStr [.Constant (.str m) j q1, .FormattedValue (.Name a q2) (-1) none q3] q4] [] p3) env = (do
      let ov ← attributeBase (.Call (.Name "super" p0) [] [] p1) "__init__" env (eval (.Call (.Name "super" p0) [] [] p1) env)
      standAt p2.atName
      let (f, first) ← holding [ov] (getMethod ov "__init__" (pl env))
      callWith p3 f first (backTo p3 (starEach [.JoinedStr [.Constant (.str m) j q1, .FormattedValue (.Name a q2) (-1) none q3] q4] env)) []))
    (hsw : ∀ env, swapsWith (.Call (.Attribute (.Call (.Name "super" p0) [] [] p1) "__init__" p2) [.JoinedStr [.Constant (.str m) j q1, .FormattedValue (.Name a q2) (-1) none q3] q4] [] p3) none p4.line env = pure false) :
    ExcF P w K mg base x f := by
  have T : OexC K C := ⟨⟨_, _, _, _, _, _, _, _, _, _, _, _, _, _, _, hC, hr⟩, hsa, hbe, hty, hkc⟩
  have S := nscope_by hsc
  have hclsD : ∃ cdD, PySem.W.clsIn K C = some cdD ∧ cdD.mro = .ref C :: n5 := by
    unfold PySem.W.clsIn
    rw [hC]
    exact ⟨_, rfl, rfl⟩
  obtain ⟨ar, har1, har2⟩ : ∃ ar, ((defArgs st).posonlyargs ++ (defArgs st).args).head? = some ar ∧ ar.arg = "self" := by
    cases e : ((defArgs st).posonlyargs ++ (defArgs st).args).head? with
    | none => rw [e] at hpar; cases hpar
    | some ar => rw [e] at hpar; exact ⟨ar, rfl, Option.some.inj hpar⟩
  have B : InitK K mg P C fI cc ⟨"__init__", qual, defArgs st, defBody st, defScope st, [(("__class__" : Str), cc)], cda⟩ (PySem.W.ksFn "__init__" qual (defArgs st) (defBody st) (defScope st) dV kV doc pm an (.ref cda) ct cc) f a n5 :=
    ⟨⟨dV, kV, doc, pm, ct, oc, an, od, osl, rfl, hf⟩, rfl, hcd, ⟨_, _, vs, _, file, tf, hcode, hvs, hfile⟩, ⟨_, _, _, hcell⟩, hclsD, hal, hsub, hve, hop, hsup, htop, ⟨ar, har1, har2⟩, S, hks, T, hno⟩
  have Fi : FnOk P w K mg base (L2N.CX P w) 1 fI _ ["self", a] (spI C f) := super_fn (k := 0) (okV := fun v => ∃ i : Int, v = .int i ∧ i.natAbs.log2 < 1920) B hbody (fun A outer s H E _ => by
    obtain ⟨ta, pa, hta⟩ := pa_msg (X := ncx (L2N.CX P w) P w K mg base ["self", a, "__class__"] ⟨"__init__", qual, defArgs st, defBody st, defScope st, [(("__class__" : Str), cc)], cda⟩ fI A outer s H E) (a := a) (m := m) (i := 1) (j := j) (q1 := q1) (q2 := q2) (q3 := q3) (q4 := q4) rfl (.inl (S.par a (List.mem_cons_of_mem _ List.mem_cons_self))) hda hca rfl
    refine ⟨ta, pa, fun y v Q hv hq => ?_⟩
    obtain ⟨i, rfl, hi⟩ := hv
    exact hta _ H Q i rfl hi hml hq) hda hca (fun env => rfl) has pl hev hsw
  exact ⟨C, fI, _, a, hm, T, own, isF, Fi, Binds.all fun us hl => hbind us hl, xfB_ok hxf, hno, hex⟩
end GF

set_option maxHeartbeats 4000000
namespace Law
open PySem PySem.Spec PyProof.Rows L2 GF
def topS (i : Nat) : Stmt := PySem.Challenge.pw_griddleflips_k82_whole_scripts_written_a.main.body.getD i (.Pass ⟨0, 0, 0, 0⟩)
def kd_FLIPS : D := .tup [.tup [.str "but", .int 0], .tup [.str "but", .int 1], .tup [.str "but", .int 2], .tup [.str "but", .int 3], .tup [.str "but", .int 4], .tup [.str "but", .int 5], .tup [.str "but", .int 6], .tup [.str "top", .int 1], .tup [.str "top", .int 2], .tup [.str "top", .int 3], .tup [.str "top", .int 4], .tup [.str "top", .int 5], .tup [.str "top", .int 6]]

/-! #### is_int -/
abbrev s_is_int : Stmt := topS 16
abbrev N_is_int : List Str := ["value", "low", "high"]
theorem sc_is_int : FnScope N_is_int ["value", "low", "high"] (defScope s_is_int) := ⟨rfl, rfl, rfl, by decide +kernel, rfl, by decide +kernel, by decide +kernel⟩
def d_is_int : FS :=
      (sRet (eAnd (eBi isiD (aCons (eV 0) (aCons (eC (.ty "int")) aNil))) (eAnd (eNot (eBi isiD (aCons (eV 0) (aCons (eC (.ty "bool")) aNil)))) (eChain leD leD (eV 1) (eV 0) (eV 2)))))
def f_is_int : List S → Mu → Out S := fnD 3 d_is_int
section
variable {P : Program} {w : World} {K : PySem.W.Frag} {mg : Str → Option Value} {base : Heap}
theorem at_is_int (T : At K mg "is_int" s_is_int ["value", "low", "high"]) (nb_int : NoB mg "int") (nb_isinstance : NoB mg "isinstance") (nb_bool : NoB mg "bool") : FnAt P w K mg base 1 "is_int" 3 f_is_int := by
  refine T.go' (k := 0) (nn := 3) (body := d_is_int) sc_is_int rfl rfl rfl rfl fun f cdv A outer s H E hr => ?_
  exact (dss_one (ds_ret (de_and (de_bi call_isi snd_isi nb_isinstance.no PyProof.Rows.boot_isinstance (da_cons (de_v 0) (da_cons (de_cls nb_int.no PyProof.Rows.boot_int) da_nil))) (de_and (de_not (de_bi call_isi snd_isi nb_isinstance.no PyProof.Rows.boot_isinstance (da_cons (de_v 0) (da_cons (de_cls nb_bool.no (by decide +kernel)) da_nil)))) (de_one (de_chain op_le snd_cmp op_le snd_cmp (de_v 1) (de_v 0) (de_v 2)))))))
end

/-! #### is_right_flip -/
abbrev s_is_right_flip : Stmt := topS 17
abbrev N_is_right_flip : List Str := ["value"]
theorem sc_is_right_flip : FnScope N_is_right_flip ["value"] (defScope s_is_right_flip) := ⟨rfl, rfl, rfl, by decide +kernel, rfl, by decide +kernel, by decide +kernel⟩
def d_is_right_flip : FS :=
      (sSeq (sIf (bOr (bNot (bT (eBi isiD (aCons (eV 0) (aCons (eC (.ty "tuple")) aNil))))) (bOr (bT (eOp neD (eBi lenD (aCons (eV 0) aNil)) (eC (.int 2)))) (bNot (bT (eBi isiD (aCons (eOp ixD (eV 0) (eC (.int 0))) (aCons (eC (.ty "str")) aNil)))))))
      (sRet (eC (.bl false)))
      sNil)
      (sSeq (sIf (bT (eOp eqD (eOp ixD (eV 0) (eC (.int 0))) (eC (.str "top"))))
      (sRet (eCall 3 f_is_int (aCons (eOp ixD (eV 0) (eC (.int 1))) (aCons (eC (.int 1)) (aCons (eC (.int 6)) aNil)))))
      sNil)
      (sRet (eAnd (eOp eqD (eOp ixD (eV 0) (eC (.int 0))) (eC (.str "but"))) (eCall 3 f_is_int (aCons (eOp ixD (eV 0) (eC (.int 1))) (aCons (eC (.int 0)) (aCons (eC (.int 6)) aNil))))))))
def f_is_right_flip : List S → Mu → Out S := fnD 1 d_is_right_flip
section
variable {P : Program} {w : World} {K : PySem.W.Frag} {mg : Str → Option Value} {base : Heap}
theorem at_is_right_flip (T : At K mg "is_right_flip" s_is_right_flip ["value"]) (ok_is_int : FnAt P w K mg base 1 "is_int" 3 f_is_int) (nb_tuple : NoB mg "tuple") (nb_isinstance : NoB mg "isinstance") (nb_len : NoB mg "len") (nb_str : NoB mg "str") : FnAt P w K mg base 2 "is_right_flip" 1 f_is_right_flip := by
  refine T.go' (k := 1) (nn := 1) (body := d_is_right_flip) sc_is_right_flip rfl rfl rfl rfl fun f cdv A outer s H E hr => ?_
  exact (dss_cons (ds_if (dt_w (dw_or (dt_not (dt_val (de_bi call_isi snd_isi nb_isinstance.no PyProof.Rows.boot_isinstance (da_cons (de_v 0) (da_cons (de_cls nb_tuple.no PyProof.Rows.boot_tuple) da_nil))))) (dw_or (dt_cmp (op_neD hr.units) snd_ne (de_bi call_lenA snd_len nb_len.no PySem.boot_len (da_cons (de_v 0) da_nil)) de_int (nomark _)) (dw_or1 (dt_not (dt_val (de_bi call_isi snd_isi nb_isinstance.no PyProof.Rows.boot_isinstance (da_cons (de_ix ix_seq snd_ix (de_v 0) de_int (fun _ _ => rfl)) (da_cons (de_cls nb_str.no (by decide +kernel)) da_nil)))))))))
      (dss_one (ds_ret de_bl))
      dss_nil)
      (dss_cons (ds_if (dt_cmp (op_eqD hr.units) snd_eq (de_ix ix_seq snd_ix (de_v 0) de_int (fun _ _ => rfl)) de_str (nomark _))
      (dss_one (ds_ret (dcall ok_is_int hr (by decide) (L2N.takes_of rfl rfl rfl rfl) (da_cons (de_ix ix_seq snd_ix (de_v 0) de_int (fun _ _ => rfl)) (da_cons de_int (da_cons de_int da_nil))))))
      dss_nil)
      (dss_one (ds_ret (de_and (de_cmp (op_eqD hr.units) snd_eq (de_ix ix_seq snd_ix (de_v 0) de_int (fun _ _ => rfl)) de_str (nomark _)) (de_one (dcall ok_is_int hr (by decide) (L2N.takes_of rfl rfl rfl rfl) (da_cons (de_ix ix_seq snd_ix (de_v 0) de_int (fun _ _ => rfl)) (da_cons de_int (da_cons de_int da_nil))))))))))
end

/-! #### are_flips -/
abbrev s_are_flips : Stmt := topS 18
abbrev N_are_flips : List Str := ["value", "most", "flip"]
theorem sc_are_flips : FnScope N_are_flips ["value", "most"] (defScope s_are_flips) := ⟨rfl, rfl, rfl, by decide +kernel, rfl, by decide +kernel, by decide +kernel⟩
def d_are_flips : FS :=
      (sRet (eAnd (eBi isiD (aCons (eV 0) (aCons (eC (.ty "tuple")) aNil))) (eAnd (eOp leD (eBi lenD (aCons (eV 0) aNil)) (eV 1)) (eBi allOfD (aCons (eLc (iSeq (eV 0)) (gN 2) bYes (eCall 1 f_is_right_flip (aCons (eV 2) aNil)) [2]) aNil)))))
def f_are_flips : List S → Mu → Out S := fnD 3 d_are_flips
section
variable {P : Program} {w : World} {K : PySem.W.Frag} {mg : Str → Option Value} {base : Heap}
theorem at_are_flips (T : At K mg "are_flips" s_are_flips ["value", "most"]) (ok_is_right_flip : FnAt P w K mg base 2 "is_right_flip" 1 f_is_right_flip) (nb_tuple : NoB mg "tuple") (nb_isinstance : NoB mg "isinstance") (nb_len : NoB mg "len") (nb_all : NoB mg "all") : FnAt P w K mg base 3 "are_flips" 2 f_are_flips := by
  refine T.go' (k := 2) (nn := 3) (body := d_are_flips) sc_are_flips rfl rfl rfl rfl fun f cdv A outer s H E hr => ?_
  exact (dss_one (ds_ret (de_and (de_bi call_isi snd_isi nb_isinstance.no PyProof.Rows.boot_isinstance (da_cons (de_v 0) (da_cons (de_cls nb_tuple.no PyProof.Rows.boot_tuple) da_nil))) (de_and (de_cmp op_le snd_cmp (de_bi call_lenA snd_len nb_len.no PySem.boot_len (da_cons (de_v 0) da_nil)) (de_v 1) (nomark _)) (de_one (de_bi (cr_all rfl) snd_all nb_all.no PyProof.Rows.boot_all (da_cons (de_lc rfl sc_are_flips.nd (di_seq (de_v 0)) (blkOk_by (own := [("flip", 2)]) (N := N_are_flips) (sc := defScope s_are_flips) (by decide +kernel)) (fun _ _ _ _ _ => (dg_name sc_are_flips.nd rfl (by first | exact Or.inl rfl | exact Or.inr rfl) (by decide))) (fun _ _ _ _ _ => dts_nil) (fun _ _ _ _ _ => (dcall ok_is_right_flip hr (by decide) takes0N (da_cons (de_v 2) da_nil))) rfl (js := [2]) (by decide)) da_nil)))))))
end

/-! #### is_right_script -/
abbrev s_is_right_script : Stmt := topS 19
abbrev N_is_right_script : List Str := ["value"]
theorem sc_is_right_script : FnScope N_is_right_script ["value"] (defScope s_is_right_script) := ⟨rfl, rfl, rfl, by decide +kernel, rfl, by decide +kernel, by decide +kernel⟩
def d_is_right_script : FS :=
      (sRet (eCall 2 f_are_flips (aCons (eV 0) (aCons (eC (.int 8)) aNil))))
def f_is_right_script : List S → Mu → Out S := fnD 1 d_is_right_script
section
variable {P : Program} {w : World} {K : PySem.W.Frag} {mg : Str → Option Value} {base : Heap}
theorem at_is_right_script (T : At K mg "is_right_script" s_is_right_script ["value"]) (ok_are_flips : FnAt P w K mg base 3 "are_flips" 2 f_are_flips) (ci_MOST_FLIPS : IntB mg "MOST_FLIPS" 8) : FnAt P w K mg base 4 "is_right_script" 1 f_is_right_script := by
  refine T.go' (k := 3) (nn := 1) (body := d_is_right_script) sc_is_right_script rfl rfl rfl rfl fun f cdv A outer s H E hr => ?_
  exact (dss_one (ds_ret (dcall ok_are_flips hr (by decide) (L2N.takes_of rfl rfl rfl rfl) (da_cons (de_v 0) (da_cons (de_intB ci_MOST_FLIPS) da_nil)))))
end

/-! #### need_script -/
abbrev s_need_script : Stmt := topS 20
abbrev N_need_script : List Str := ["value"]
theorem sc_need_script : FnScope N_need_script ["value"] (defScope s_need_script) := ⟨rfl, rfl, rfl, by decide +kernel, rfl, by decide +kernel, by decide +kernel⟩
def d_need_script : FS :=
      (sIf (bNot (bT (eCall 1 f_is_right_script (aCons (eV 0) aNil))))
      (sRaise "InvalidScript")
      sNil)
def f_need_script : List S → Mu → Out S := fnD 1 d_need_script
section
variable {P : Program} {w : World} {K : PySem.W.Frag} {mg : Str → Option Value} {base : Heap}
theorem at_need_script (T : At K mg "need_script" s_need_script ["value"]) (ok_is_right_script : FnAt P w K mg base 4 "is_right_script" 1 f_is_right_script) (eb_InvalidScript : ExcB K mg "InvalidScript") : FnAt P w K mg base 5 "need_script" 1 f_need_script := by
  refine T.go' (k := 4) (nn := 1) (body := d_need_script) sc_need_script rfl rfl rfl rfl fun f cdv A outer s H E hr => ?_
  exact (dss_one (ds_if (dt_not (dt_val (dcall ok_is_right_script hr (by decide) (L2N.takes_of rfl rfl rfl rfl) (da_cons (de_v 0) da_nil))))
      (dss_one (ds_raise rfl (L2N.takes_of rfl rfl rfl rfl) eb_InvalidScript))
      dss_nil))
end

/-! #### flip_text -/
abbrev s_flip_text : Stmt := topS 22
abbrev N_flip_text : List Str := ["flip"]
theorem sc_flip_text : FnScope N_flip_text ["flip"] (defScope s_flip_text) := ⟨rfl, rfl, rfl, by decide +kernel, rfl, by decide +kernel, by decide +kernel⟩
def d_flip_text : FS :=
      (sRet (eFs2 (eOp ixD (eV 0) (eC (.int 0))) (eOp ixD (eV 0) (eC (.int 1)))))
def f_flip_text : List S → Mu → Out S := fnD 1 d_flip_text
section
variable {P : Program} {w : World} {K : PySem.W.Frag} {mg : Str → Option Value} {base : Heap}
theorem at_flip_text (T : At K mg "flip_text" s_flip_text ["flip"])  : FnAt P w K mg base 1 "flip_text" 1 f_flip_text := by
  refine T.go' (k := 0) (nn := 1) (body := d_flip_text) sc_flip_text rfl rfl rfl rfl fun f cdv A outer s H E hr => ?_
  exact (dss_one (ds_ret (de_fs2 (de_ix ix_seq snd_ix (de_v 0) de_int (fun _ _ => rfl)) (de_ix ix_seq snd_ix (de_v 0) de_int (fun _ _ => rfl)))))
end

/-! #### text_of -/
abbrev s_text_of : Stmt := topS 23
abbrev N_text_of : List Str := ["script", "flip"]
theorem sc_text_of : FnScope N_text_of ["script"] (defScope s_text_of) := ⟨rfl, rfl, rfl, by decide +kernel, rfl, by decide +kernel, by decide +kernel⟩
def d_text_of : FS :=
      (sRet (eIf (bT (eOp neD (eV 0) (eTup aNil))) (eMt joinD (eC (.str " ")) (eLc (iSeq (eV 0)) (gN 1) bYes (eCall 1 f_flip_text (aCons (eV 1) aNil)) [1])) (eC (.str "-"))))
def f_text_of : List S → Mu → Out S := fnD 2 d_text_of
section
variable {P : Program} {w : World} {K : PySem.W.Frag} {mg : Str → Option Value} {base : Heap}
theorem at_text_of (T : At K mg "text_of" s_text_of ["script"]) (ok_flip_text : FnAt P w K mg base 1 "flip_text" 1 f_flip_text) : FnAt P w K mg base 2 "text_of" 1 f_text_of := by
  refine T.go' (k := 1) (nn := 2) (body := d_text_of) sc_text_of rfl rfl rfl rfl fun f cdv A outer s H E hr => ?_
  exact (dss_one (ds_ret (de_if (dt_cmp (op_neD hr.units) snd_ne (de_v 0) (de_tup da_nil) (nomark _)) (de_join de_str (de_lc rfl sc_text_of.nd (di_seq (de_v 0)) (blkOk_by (own := [("flip", 1)]) (N := N_text_of) (sc := defScope s_text_of) (by decide +kernel)) (fun _ _ _ _ _ => (dg_name sc_text_of.nd rfl (by first | exact Or.inl rfl | exact Or.inr rfl) (by decide))) (fun _ _ _ _ _ => dts_nil) (fun _ _ _ _ _ => (dcall ok_flip_text hr (by decide) takes0N (da_cons (de_v 1) da_nil))) rfl (js := [1]) (by decide))) de_str)))
end

/-! #### script_text -/
abbrev s_script_text : Stmt := topS 24
abbrev N_script_text : List Str := ["script"]
theorem sc_script_text : FnScope N_script_text ["script"] (defScope s_script_text) := ⟨rfl, rfl, rfl, by decide +kernel, rfl, by decide +kernel, by decide +kernel⟩
def d_script_text : FS :=
      (sSeq (sExpr (eCall 1 f_need_script (aCons (eV 0) aNil)))
      (sRet (eCall 1 f_text_of (aCons (eV 0) aNil))))
def f_script_text : List S → Mu → Out S := fnD 1 d_script_text
section
variable {P : Program} {w : World} {K : PySem.W.Frag} {mg : Str → Option Value} {base : Heap}
theorem at_script_text (T : At K mg "script_text" s_script_text ["script"]) (ok_need_script : FnAt P w K mg base 5 "need_script" 1 f_need_script) (ok_text_of : FnAt P w K mg base 2 "text_of" 1 f_text_of) : FnAt P w K mg base 6 "script_text" 1 f_script_text := by
  refine T.go' (k := 5) (nn := 1) (body := d_script_text) sc_script_text rfl rfl rfl rfl fun f cdv A outer s H E hr => ?_
  exact (dss_cons (ds_expr (dcall ok_need_script hr (by decide) (L2N.takes_of rfl rfl rfl rfl) (da_cons (de_v 0) da_nil)))
      (dss_one (ds_ret (dcall ok_text_of hr (by decide) (L2N.takes_of rfl rfl rfl rfl) (da_cons (de_v 0) da_nil)))))
end

/-! #### read_script -/
abbrev s_read_script : Stmt := topS 25
abbrev N_read_script : List Str := ["value", "known", "found", "flip", "at", "word"]
theorem sc_read_script : FnScope N_read_script ["value"] (defScope s_read_script) := ⟨rfl, rfl, rfl, by decide +kernel, rfl, by decide +kernel, by decide +kernel⟩
def lb1_read_script : FS :=
      (sSeq (sIf (bT (eOp dnotD (eV 5) (eV 1)))
      (sRaiseF "InvalidText" "word" (eOp addD (eV 4) (eC (.int 1))))
      sNil)
      (sApp (eV 2) (eOp dgetD (eV 1) (eV 5))))
def d_read_script : FS :=
      (sSeq (sIf (bNot (bT (eBi isiD (aCons (eV 0) (aCons (eC (.ty "str")) aNil)))))
      (sRaiseF "InvalidText" "word" (eC (.int 0)))
      sNil)
      (sSeq (sIf (bT (eOp eqD (eV 0) (eC (.str "-"))))
      (sRet (eTup aNil))
      sNil)
      (sSeq (sPar 1 2 (aCons (eBi dictD (aCons (eLc (iSeq (eC kd_FLIPS)) (gN 3) bYes (eTup (aCons (eCall 1 f_flip_text (aCons (eV 3) aNil)) (aCons (eV 3) aNil))) [3]) aNil)) (aCons (eCell aNil) aNil)))
      (sSeq (sFor (iEnm (eMt splitD (eV 0) (eC (.str " ")))) (gT 2 (gsC (gN 4) (gsC (gN 5) gsN)))
      lb1_read_script)
      (sSeq (sIf (bT (eOp gtD (eBi lenD (aCons (eV 2) aNil)) (eC (.int 8))))
      (sRaiseF "InvalidText" "word" (eOp addD (eC (.int 8)) (eC (.int 1))))
      sNil)
      (sRet (eBi tupleD (aCons (eV 2) aNil))))))))
def f_read_script : List S → Mu → Out S := fnD 6 d_read_script
section
variable {P : Program} {w : World} {K : PySem.W.Frag} {mg : Str → Option Value} {base : Heap}
theorem at_read_script (T : At K mg "read_script" s_read_script ["value"]) (ok_flip_text : FnAt P w K mg base 1 "flip_text" 1 f_flip_text) (nb_str : NoB mg "str") (nb_isinstance : NoB mg "isinstance") (nb_dict : NoB mg "dict") (nb_enumerate : NoB mg "enumerate") (nb_len : NoB mg "len") (nb_tuple : NoB mg "tuple") (ci_MOST_FLIPS : IntB mg "MOST_FLIPS" 8) (kc_FLIPS : KepB K mg "FLIPS" kd_FLIPS) (ef_InvalidText : ExcF P w K mg base "InvalidText" "word") : FnAt P w K mg base 3 "read_script" 1 f_read_script := by
  refine T.go' (k := 2) (nn := 6) (body := d_read_script) sc_read_script rfl rfl rfl rfl fun f cdv A outer s H E hr => ?_
  exact (dss_cons (ds_if (dt_not (dt_val (de_bi call_isi snd_isi nb_isinstance.no PyProof.Rows.boot_isinstance (da_cons (de_v 0) (da_cons (de_cls nb_str.no (by decide +kernel)) da_nil)))))
      (dss_one (ds_raiseF (k := 0) rfl (L2N.takes_of rfl rfl rfl rfl) (hr.mono (by decide)) ef_InvalidText de_int))
      dss_nil)
      (dss_cons (ds_if (dt_cmp (op_eqD hr.units) snd_eq (de_v 0) de_str (nomark _))
      (dss_one (ds_ret (de_tup da_nil)))
      dss_nil)
      (dss_cons (ds_par (i := 1) (j := 2) rfl sc_read_script.nd rfl rfl (by decide) rfl rfl (da_cons (de_ty (call_dictP rfl) snd_dict nb_dict.no (by decide +kernel) (da_cons (de_lc rfl sc_read_script.nd (di_seq (de_kept kc_FLIPS)) (blkOk_by (own := [("flip", 3)]) (N := N_read_script) (sc := defScope s_read_script) (by decide +kernel)) (fun _ _ _ _ _ => (dg_name sc_read_script.nd rfl (by first | exact Or.inl rfl | exact Or.inr rfl) (by decide))) (fun _ _ _ _ _ => dts_nil) (fun _ _ _ _ _ => (de_tup (da_cons (dcall ok_flip_text hr (by decide) takes0N (da_cons (de_v 3) da_nil)) (da_cons (de_v 3) da_nil)))) rfl (js := [3]) (by decide)) da_nil)) (da_cons (de_cell da_nil) da_nil)) (fun pa => ps_par rfl sc_read_script.nd rfl rfl (by decide) rfl rfl pa (by rfl)))
      (dss_cons (ds_for (js := [4, 5]) (passes_of rfl) rfl (di_enm nb_enumerate.no (de_split (de_v 0) de_str)) (dg_tup rfl (dgs_cons (dg_name sc_read_script.nd rfl (by first | exact Or.inl rfl | exact Or.inr rfl) (by decide)) (dgs_cons (dg_name sc_read_script.nd rfl (by first | exact Or.inl rfl | exact Or.inr rfl) (by decide)) dgs_nil)))
      (dss_cons (ds_if (dt_dnot (du_of hr) (de_v 5) (de_v 1))
      (dss_one (ds_raiseF (k := 0) rfl (L2N.takes_of rfl rfl rfl rfl) (hr.mono (by decide)) ef_InvalidText (de_op op_addA snd_add (de_v 4) de_int)))
      dss_nil)
      (dss_one (ds_app (de_v 2) (de_dget (du_of hr) (de_v 1) (de_v 5) (fun _ _ => rfl)) (fun po pa => ps_expr (pe_bm PySem.F.plainAttrs_list PySem.F.slot_list_append PySem.F.type_list_append mt_append po pa))))))
      (dss_cons (ds_if (dt_cmp op_gt snd_cmp (de_bi call_lenA snd_len nb_len.no PySem.boot_len (da_cons (de_v 2) da_nil)) (de_intB ci_MOST_FLIPS) (nomark _))
      (dss_one (ds_raiseF (k := 0) rfl (L2N.takes_of rfl rfl rfl rfl) (hr.mono (by decide)) ef_InvalidText (de_op op_addA snd_add (de_intB ci_MOST_FLIPS) de_int)))
      dss_nil)
      (dss_one (ds_ret (de_ty call_tuple_of snd_tuple nb_tuple.no PyProof.Rows.boot_tuple (da_cons (de_v 2) da_nil)))))))))
end

/-! #### _law_source -/
abbrev s__law_source : Stmt := topS 27
abbrev N__law_source : List Str := ["_law_script_here", "_law_k", "_law_number", "_law_start"]
theorem sc__law_source : FnScope N__law_source ["_law_script_here", "_law_k"] (defScope s__law_source) := ⟨rfl, rfl, rfl, by decide +kernel, rfl, by decide +kernel, by decide +kernel⟩
def d__law_source : FS :=
      (sSeq (sSet 2 (eC (.int 0)))
      (sSeq (sIf (bT (eOp gtD (eBi lenD (aCons (eV 0) aNil)) (eV 1)))
      (sSet 2 (eBi intD (aCons (eOp ixD (eV 0) (eV 1)) aNil)))
      sNil)
      (sSeq (sSet 3 (eOp modD (eOp addD (eOp addD (eOp mulD (eV 2) (eC (.int 16807))) (eOp mulD (eC (.int 60919)) (eV 1))) (eC (.int 31))) (eC (.int 2147481173))))
      (sSeq (sSet 3 (eOp addD (eOp addD (eOp modD (eOp mulD (eV 3) (eV 3)) (eC (.int 2147481151))) (eOp mulD (eC (.int 2)) (eV 1))) (eC (.int 5))))
      (sRet (eCell (aCons (eIf (bT (eOp geD (eV 2) (eOp powD (eC (.int 10)) (eC (.int 18))))) (eV 2) (eC (.int 0))) (aCons (eV 3) aNil))))))))
def f__law_source : List S → Mu → Out S := fnD 4 d__law_source
section
variable {P : Program} {w : World} {K : PySem.W.Frag} {mg : Str → Option Value} {base : Heap}
theorem at__law_source (T : At K mg "_law_source" s__law_source ["_law_script_here", "_law_k"]) (nb_len : NoB mg "len") (nb_int : NoB mg "int") : FnAt P w K mg base 1 "_law_source" 2 f__law_source := by
  refine T.go' (k := 0) (nn := 4) (body := d__law_source) sc__law_source rfl rfl rfl rfl fun f cdv A outer s H E hr => ?_
  exact (dss_cons (ds_set (i := 2) sc__law_source.nd rfl (Or.inl rfl) de_int)
      (dss_cons (ds_if (dt_cmp op_gt snd_cmp (de_bi call_lenA snd_len nb_len.no PySem.boot_len (da_cons (de_v 0) da_nil)) (de_v 1) (nomark _))
      (dss_one (ds_set (i := 2) sc__law_source.nd rfl (Or.inl rfl) (de_ty call_int1 snd_int nb_int.no PyProof.Rows.boot_int (da_cons (de_ix ix_seq snd_ix (de_v 0) (de_v 1) (fun _ _ => rfl)) da_nil))))
      dss_nil)
      (dss_cons (ds_set (i := 3) sc__law_source.nd rfl (Or.inl rfl) (de_op op_mod snd_mod (de_op op_addA snd_add (de_op op_addA snd_add (de_op op_mulA snd_mul (de_v 2) de_int) (de_op op_mulA snd_mul de_int (de_v 1))) de_int) de_int))
      (dss_cons (ds_set (i := 3) sc__law_source.nd rfl (Or.inl rfl) (de_op op_addA snd_add (de_op op_addA snd_add (de_op op_mod snd_mod (de_op op_mulA snd_mul (de_v 3) (de_v 3)) de_int) (de_op op_mulA snd_mul de_int (de_v 1))) de_int))
      (dss_one (ds_ret (de_cell (da_cons (de_if (dt_cmp op_ge snd_cmp (de_v 2) (de_op op_pow snd_pow de_int de_int) (nomark _)) (de_v 2) de_int) (da_cons (de_v 3) da_nil)))))))))
end

/-! #### _law_pick -/
abbrev s__law_pick : Stmt := topS 28
abbrev N__law_pick : List Str := ["_law_source_here", "_law_many", "_law_found"]
theorem sc__law_pick : FnScope N__law_pick ["_law_source_here", "_law_many"] (defScope s__law_pick) := ⟨rfl, rfl, rfl, by decide +kernel, rfl, by decide +kernel, by decide +kernel⟩
def d__law_pick : FS :=
      (sSeq (sIf (bT (eOp gtD (eOp ixD (eV 0) (eC (.int 0))) (eC (.int 0))))
      (sSeq (sSet 2 (eOp modD (eBi intD (aCons (eOp ixD (eV 0) (eC (.int 0))) aNil)) (eV 1)))
      (sSeq (sSub (eV 0) (eC (.int 0)) (eOp fdivD (eBi intD (aCons (eOp ixD (eV 0) (eC (.int 0))) aNil)) (eV 1)))
      (sRet (eV 2))))
      sNil)
      (sSeq (sSub (eV 0) (eC (.int 1)) (eOp modD (eBi intD (aCons (eOp addD (eOp mulD (eOp ixD (eV 0) (eC (.int 1))) (eC (.int 44497))) (eC (.int 9973))) aNil)) (eC (.int 2147483647))))
      (sRet (eOp modD (eOp fdivD (eOp modD (eBi intD (aCons (eOp mulD (eOp ixD (eV 0) (eC (.int 1))) (eOp ixD (eV 0) (eC (.int 1)))) aNil)) (eC (.int 2147483399))) (eC (.int 11))) (eV 1)))))
def f__law_pick : List S → Mu → Out S := fnD 3 d__law_pick
section
variable {P : Program} {w : World} {K : PySem.W.Frag} {mg : Str → Option Value} {base : Heap}
theorem at__law_pick (T : At K mg "_law_pick" s__law_pick ["_law_source_here", "_law_many"]) (nb_int : NoB mg "int") : FnAt P w K mg base 1 "_law_pick" 2 f__law_pick := by
  refine T.go' (k := 0) (nn := 3) (body := d__law_pick) sc__law_pick rfl rfl rfl rfl fun f cdv A outer s H E hr => ?_
  exact (dss_cons (ds_if (dt_cmp op_gt snd_cmp (de_ix ix_seq snd_ix (de_v 0) de_int (fun _ _ => rfl)) de_int (nomark _))
      (dss_cons (ds_set (i := 2) sc__law_pick.nd rfl (Or.inl rfl) (de_op op_mod snd_mod (de_ty call_int1 snd_int nb_int.no PyProof.Rows.boot_int (da_cons (de_ix ix_seq snd_ix (de_v 0) de_int (fun _ _ => rfl)) da_nil)) (de_v 1)))
      (dss_cons (ds_sub (de_v 0) de_int (de_op op_fdivW snd_fdiv (de_ty call_int1 snd_int nb_int.no PyProof.Rows.boot_int (da_cons (de_ix ix_seq snd_ix (de_v 0) de_int (fun _ _ => rfl)) da_nil)) (de_v 1)) (fun po pi pe => ps_asg pe (pg_sub po pi set_list)))
      (dss_one (ds_ret (de_v 2)))))
      dss_nil)
      (dss_cons (ds_sub (de_v 0) de_int (de_op op_mod snd_mod (de_ty call_int1 snd_int nb_int.no PyProof.Rows.boot_int (da_cons (de_op op_addA snd_add (de_op op_mulA snd_mul (de_ix ix_seq snd_ix (de_v 0) de_int (fun _ _ => rfl)) de_int) de_int) da_nil)) de_int) (fun po pi pe => ps_asg pe (pg_sub po pi set_list)))
      (dss_one (ds_ret (de_op op_mod snd_mod (de_op op_fdivW snd_fdiv (de_op op_mod snd_mod (de_ty call_int1 snd_int nb_int.no PyProof.Rows.boot_int (da_cons (de_op op_mulA snd_mul (de_ix ix_seq snd_ix (de_v 0) de_int (fun _ _ => rfl)) (de_ix ix_seq snd_ix (de_v 0) de_int (fun _ _ => rfl))) da_nil)) de_int) de_int) (de_v 1))))))
end

/-! #### _law_chosen -/
abbrev s__law_chosen : Stmt := topS 29
abbrev N__law_chosen : List Str := ["_law_source_here", "_law_things"]
theorem sc__law_chosen : FnScope N__law_chosen ["_law_source_here", "_law_things"] (defScope s__law_chosen) := ⟨rfl, rfl, rfl, by decide +kernel, rfl, by decide +kernel, by decide +kernel⟩
def d__law_chosen : FS :=
      (sRet (eOp ixD (eV 1) (eCall 2 f__law_pick (aCons (eV 0) (aCons (eBi lenD (aCons (eV 1) aNil)) aNil)))))
def f__law_chosen : List S → Mu → Out S := fnD 2 d__law_chosen
section
variable {P : Program} {w : World} {K : PySem.W.Frag} {mg : Str → Option Value} {base : Heap}
theorem at__law_chosen (T : At K mg "_law_chosen" s__law_chosen ["_law_source_here", "_law_things"]) (ok__law_pick : FnAt P w K mg base 1 "_law_pick" 2 f__law_pick) (nb_len : NoB mg "len") : FnAt P w K mg base 2 "_law_chosen" 2 f__law_chosen := by
  refine T.go' (k := 1) (nn := 2) (body := d__law_chosen) sc__law_chosen rfl rfl rfl rfl fun f cdv A outer s H E hr => ?_
  exact (dss_one (ds_ret (de_ix ix_seq snd_ix (de_v 1) (dcall ok__law_pick hr (by decide) (L2N.takes_of rfl rfl rfl rfl) (da_cons (de_v 0) (da_cons (de_bi call_lenA snd_len nb_len.no PySem.boot_len (da_cons (de_v 1) da_nil)) da_nil))) (fun _ _ => rfl))))
end

/-! #### _law_error -/
abbrev s__law_error : Stmt := topS 31
abbrev N__law_error : List Str := ["_law_e", "_law_some", "_law_word_so", "_law_good"]
theorem sc__law_error : FnScope N__law_error ["_law_e"] (defScope s__law_error) := ⟨rfl, rfl, rfl, by decide +kernel, rfl, by decide +kernel, by decide +kernel⟩
def d__law_error (ad : Addr) (b0 b1 b2 b3 b4 b5 b6 b7 b8 b9 b10 : Bool) : FS :=
      (sSeq (sSet 1 (eLst (aCons (eTup (aCons (eC (.str "flip")) (aCons (eIsP 0 ad b0) aNil))) (aCons (eTup (aCons (eC (.str "script")) (aCons (eIsP 0 ad b1) aNil))) aNil))))
      (sSeq (sSet 1 (eOp addD (eV 1) (eLst (aCons (eTup (aCons (eC (.str "height")) (aCons (eIsP 0 ad b2) aNil))) (aCons (eTup (aCons (eC (.str "place")) (aCons (eIsP 0 ad b3) aNil))) aNil)))))
      (sSeq (sSet 1 (eOp addD (eV 1) (eLst (aCons (eTup (aCons (eC (.str "number")) (aCons (eIsP 0 ad b4) aNil))) (aCons (eTup (aCons (eC (.str "index")) (aCons (eIsP 0 ad b5) aNil))) aNil)))))
      (sSeq (sSet 1 (eOp addD (eV 1) (eLst (aCons (eTup (aCons (eC (.str "stack")) (aCons (eIsP 0 ad b6) aNil))) (aCons (eTup (aCons (eC (.str "unlike")) (aCons (eIsP 0 ad b7) aNil))) aNil)))))
      (sSeq (sSet 1 (eOp addD (eV 1) (eLst (aCons (eTup (aCons (eC (.str "undo")) (aCons (eIsP 0 ad b8) aNil))) (aCons (eTup (aCons (eC (.str "many")) (aCons (eIsP 0 ad b9) aNil))) aNil)))))
      (sSeq (sSet 1 (eOp addD (eV 1) (eLst (aCons (eTup (aCons (eC (.str "text")) (aCons (eIsP 0 ad b10) aNil))) aNil))))
      (sRet (eMt joinD (eC (.str " ")) (eLc (iLst (eV 1)) (gT 2 (gsC (gN 2) (gsC (gN 3) gsN))) (bT (eV 3)) (eV 2) [2, 3])))))))))
section
variable {P : Program} {w : World} {K : PySem.W.Frag} {mg : Str → Option Value} {base : Heap}
theorem at__law_error {f : Addr} {fd : FuncData} {D C0 C1 C2 C3 C4 C5 C6 C7 C8 C9 C10 : Addr} {b0 b1 b2 b3 b4 b5 b6 b7 b8 b9 b10 : Bool} (F : Fun K "_law_error" "_law_error" s__law_error f fd) (hD : ExcC K D) (m0 : mg "InvalidFlip" = some (.ref C0)) (m1 : mg "InvalidScript" = some (.ref C1)) (m2 : mg "InvalidHeight" = some (.ref C2)) (m3 : mg "InvalidPlace" = some (.ref C3)) (m4 : mg "InvalidNumber" = some (.ref C4)) (m5 : mg "InvalidIndex" = some (.ref C5)) (m6 : mg "InvalidStack" = some (.ref C6)) (m7 : mg "Unlike" = some (.ref C7)) (m8 : mg "NothingToUndo" = some (.ref C8)) (m9 : mg "TooMany" = some (.ref C9)) (m10 : mg "InvalidText" = some (.ref C10)) (q0 : PySem.W.kitOne K (.ref D) (.ref C0) = some b0) (q1 : PySem.W.kitOne K (.ref D) (.ref C1) = some b1) (q2 : PySem.W.kitOne K (.ref D) (.ref C2) = some b2) (q3 : PySem.W.kitOne K (.ref D) (.ref C3) = some b3) (q4 : PySem.W.kitOne K (.ref D) (.ref C4) = some b4) (q5 : PySem.W.kitOne K (.ref D) (.ref C5) = some b5) (q6 : PySem.W.kitOne K (.ref D) (.ref C6) = some b6) (q7 : PySem.W.kitOne K (.ref D) (.ref C7) = some b7) (q8 : PySem.W.kitOne K (.ref D) (.ref C8) = some b8) (q9 : PySem.W.kitOne K (.ref D) (.ref C9) = some b9) (q10 : PySem.W.kitOne K (.ref D) (.ref C10) = some b10) (nb_isinstance : NoB mg "isinstance") :
    FnZ P w K mg base (fun o => Zc (.ref D) none o ∧ ∃ vs, o.data = .fields vs) 1 f fd ["_law_e"] (fun a => spD K mg 1 (fnD 4 (d__law_error a b0 b1 b2 b3 b4 b5 b6 b7 b8 b9 b10))) :=
  fnZ_of (k := 0) (N := N__law_error) (ps := ["_law_e"]) (body := fun a => d__law_error a b0 b1 b2 b3 b4 b5 b6 b7 b8 b9 b10) F sc__law_error fun cdv A outer s H E p hz hot =>
  (dss_cons (ds_set (i := 1) sc__law_error.nd rfl (Or.inl rfl) (de_lst (da_cons (de_tup (da_cons de_str (da_cons (de_isP (p := p) List.mem_cons_self hz.1 hz.2 hD m0 q0 nb_isinstance.no) da_nil))) (da_cons (de_tup (da_cons de_str (da_cons (de_isP (p := p) List.mem_cons_self hz.1 hz.2 hD m1 q1 nb_isinstance.no) da_nil))) da_nil))))
      (dss_cons (ds_set (i := 1) sc__law_error.nd rfl (Or.inl rfl) (de_op op_addA snd_add (de_v 1) (de_lst (da_cons (de_tup (da_cons de_str (da_cons (de_isP (p := p) List.mem_cons_self hz.1 hz.2 hD m2 q2 nb_isinstance.no) da_nil))) (da_cons (de_tup (da_cons de_str (da_cons (de_isP (p := p) List.mem_cons_self hz.1 hz.2 hD m3 q3 nb_isinstance.no) da_nil))) da_nil)))))
      (dss_cons (ds_set (i := 1) sc__law_error.nd rfl (Or.inl rfl) (de_op op_addA snd_add (de_v 1) (de_lst (da_cons (de_tup (da_cons de_str (da_cons (de_isP (p := p) List.mem_cons_self hz.1 hz.2 hD m4 q4 nb_isinstance.no) da_nil))) (da_cons (de_tup (da_cons de_str (da_cons (de_isP (p := p) List.mem_cons_self hz.1 hz.2 hD m5 q5 nb_isinstance.no) da_nil))) da_nil)))))
      (dss_cons (ds_set (i := 1) sc__law_error.nd rfl (Or.inl rfl) (de_op op_addA snd_add (de_v 1) (de_lst (da_cons (de_tup (da_cons de_str (da_cons (de_isP (p := p) List.mem_cons_self hz.1 hz.2 hD m6 q6 nb_isinstance.no) da_nil))) (da_cons (de_tup (da_cons de_str (da_cons (de_isP (p := p) List.mem_cons_self hz.1 hz.2 hD m7 q7 nb_isinstance.no) da_nil))) da_nil)))))
      (dss_cons (ds_set (i := 1) sc__law_error.nd rfl (Or.inl rfl) (de_op op_addA snd_add (de_v 1) (de_lst (da_cons (de_tup (da_cons de_str (da_cons (de_isP (p := p) List.mem_cons_self hz.1 hz.2 hD m8 q8 nb_isinstance.no) da_nil))) (da_cons (de_tup (da_cons de_str (da_cons (de_isP (p := p) List.mem_cons_self hz.1 hz.2 hD m9 q9 nb_isinstance.no) da_nil))) da_nil)))))
      (dss_cons (ds_set (i := 1) sc__law_error.nd rfl (Or.inl rfl) (de_op op_addA snd_add (de_v 1) (de_lst (da_cons (de_tup (da_cons de_str (da_cons (de_isP (p := p) List.mem_cons_self hz.1 hz.2 hD m10 q10 nb_isinstance.no) da_nil))) da_nil))))
      (dss_one (ds_ret (de_join de_str (de_lcH ⟨p, hot, List.mem_cons_self⟩ sc__law_error.nd (de_v 1) (blkOk_by (own := [("_law_word_so", 2), ("_law_good", 3)]) (N := N__law_error) (sc := defScope s__law_error) (by decide +kernel)) (fun _ _ _ _ _ _ hB => (dg_tupH hB (dgs_cons (dg_name sc__law_error.nd rfl (by first | exact Or.inl rfl | exact Or.inr rfl) (by decide)) (dgs_cons (dg_name sc__law_error.nd rfl (by first | exact Or.inl rfl | exact Or.inr rfl) (by decide)) dgs_nil)))) (fun _ _ _ _ _ _ => (dts_one (dt_val (de_v 3)))) (fun _ _ _ _ _ _ => (de_v 2)) rfl (js := [2, 3]) (by decide)))))))))))
end
theorem err_word0 (a : Addr) (μ : Mu) : fnD 4 (d__law_error a true false false false false false false false false false false) [.d (.adr a)] μ = .ok (.d (.str "flip")) μ := err_w0 a μ
theorem err_word1 (a : Addr) (μ : Mu) : fnD 4 (d__law_error a false true false false false false false false false false false) [.d (.adr a)] μ = .ok (.d (.str "script")) μ := err_w1 a μ
theorem err_word2 (a : Addr) (μ : Mu) : fnD 4 (d__law_error a false false true false false false false false false false false) [.d (.adr a)] μ = .ok (.d (.str "height")) μ := err_w2 a μ
theorem err_word3 (a : Addr) (μ : Mu) : fnD 4 (d__law_error a false false false true false false false false false false false) [.d (.adr a)] μ = .ok (.d (.str "place")) μ := err_w3 a μ
theorem err_word4 (a : Addr) (μ : Mu) : fnD 4 (d__law_error a false false false false true false false false false false false) [.d (.adr a)] μ = .ok (.d (.str "number")) μ := err_w4 a μ
theorem err_word5 (a : Addr) (μ : Mu) : fnD 4 (d__law_error a false false false false false true false false false false false) [.d (.adr a)] μ = .ok (.d (.str "index")) μ := err_w5 a μ
theorem err_word6 (a : Addr) (μ : Mu) : fnD 4 (d__law_error a false false false false false false true false false false false) [.d (.adr a)] μ = .ok (.d (.str "stack")) μ := err_w6 a μ
theorem err_word7 (a : Addr) (μ : Mu) : fnD 4 (d__law_error a false false false false false false false true false false false) [.d (.adr a)] μ = .ok (.d (.str "unlike")) μ := err_w7 a μ
theorem err_word8 (a : Addr) (μ : Mu) : fnD 4 (d__law_error a false false false false false false false false true false false) [.d (.adr a)] μ = .ok (.d (.str "undo")) μ := err_w8 a μ

/-! #### _law_refused -/
abbrev s__law_refused : Stmt := topS 30
abbrev N__law_refused : List Str := ["_law_call", "_law_e"]
theorem sc__law_refused : FnScope N__law_refused ["_law_call"] (defScope s__law_refused) := ⟨rfl, rfl, rfl, by decide +kernel, rfl, by decide +kernel, by decide +kernel⟩

/-! #### _law_flip -/
abbrev s__law_flip : Stmt := topS 32
abbrev N__law_flip : List Str := ["_law_source_here", "_law_way"]
theorem sc__law_flip : FnScope N__law_flip ["_law_source_here"] (defScope s__law_flip) := ⟨rfl, rfl, rfl, by decide +kernel, rfl, by decide +kernel, by decide +kernel⟩
def d__law_flip : FS :=
      (sSeq (sSet 1 (eCall 2 f__law_pick (aCons (eV 0) (aCons (eC (.int 13)) aNil))))
      (sRet (eIf (bT (eOp ltD (eV 1) (eC (.int 7)))) (eTup (aCons (eC (.str "but")) (aCons (eV 1) aNil))) (eTup (aCons (eC (.str "top")) (aCons (eOp subD (eV 1) (eC (.int 6))) aNil))))))
def f__law_flip : List S → Mu → Out S := fnD 2 d__law_flip
section
variable {P : Program} {w : World} {K : PySem.W.Frag} {mg : Str → Option Value} {base : Heap}
theorem at__law_flip (T : At K mg "_law_flip" s__law_flip ["_law_source_here"]) (ok__law_pick : FnAt P w K mg base 1 "_law_pick" 2 f__law_pick) : FnAt P w K mg base 2 "_law_flip" 1 f__law_flip := by
  refine T.go' (k := 1) (nn := 2) (body := d__law_flip) sc__law_flip rfl rfl rfl rfl fun f cdv A outer s H E hr => ?_
  exact (dss_cons (ds_set (i := 1) sc__law_flip.nd rfl (Or.inl rfl) (dcall ok__law_pick hr (by decide) (L2N.takes_of rfl rfl rfl rfl) (da_cons (de_v 0) (da_cons de_int da_nil))))
      (dss_one (ds_ret (de_if (dt_cmp op_lt snd_cmp (de_v 1) de_int (nomark _)) (de_tup (da_cons de_str (da_cons (de_v 1) da_nil))) (de_tup (da_cons de_str (da_cons (de_op op_sub snd_sub (de_v 1) de_int) da_nil)))))))
end

/-! #### _law_script -/
abbrev s__law_script : Stmt := topS 33
abbrev N__law_script : List Str := ["_law_source_here", "_law_most_so", "_law_turn"]
theorem sc__law_script : FnScope N__law_script ["_law_source_here", "_law_most_so"] (defScope s__law_script) := ⟨rfl, rfl, rfl, by decide +kernel, rfl, by decide +kernel, by decide +kernel⟩
def d__law_script : FS :=
      (sRet (eBi tupleD (aCons (eLc (iRange1 (aCons (eCall 2 f__law_pick (aCons (eV 0) (aCons (eOp addD (eV 1) (eC (.int 1))) aNil))) aNil)) (gN 2) bYes (eCall 1 f__law_flip (aCons (eV 0) aNil)) [2]) aNil)))
def f__law_script : List S → Mu → Out S := fnD 3 d__law_script
section
variable {P : Program} {w : World} {K : PySem.W.Frag} {mg : Str → Option Value} {base : Heap}
theorem at__law_script (T : At K mg "_law_script" s__law_script ["_law_source_here", "_law_most_so"]) (ok__law_pick : FnAt P w K mg base 1 "_law_pick" 2 f__law_pick) (ok__law_flip : FnAt P w K mg base 2 "_law_flip" 1 f__law_flip) (nb_range : NoB mg "range") (nb_tuple : NoB mg "tuple") : FnAt P w K mg base 3 "_law_script" 2 f__law_script := by
  refine T.go' (k := 2) (nn := 3) (body := d__law_script) sc__law_script rfl rfl rfl rfl fun f cdv A outer s H E hr => ?_
  exact (dss_one (ds_ret (de_ty call_tuple_of snd_tuple nb_tuple.no PyProof.Rows.boot_tuple (da_cons (de_lc rfl sc__law_script.nd (di_range1 nb_range.no (da_cons (dcall ok__law_pick hr (by decide) (L2N.takes_of rfl rfl rfl rfl) (da_cons (de_v 0) (da_cons (de_op op_addA snd_add (de_v 1) de_int) da_nil))) da_nil)) (blkOk_by (own := [("_law_turn", 2)]) (N := N__law_script) (sc := defScope s__law_script) (by decide +kernel)) (fun _ _ _ _ _ => (dg_name sc__law_script.nd rfl (by first | exact Or.inl rfl | exact Or.inr rfl) (by decide))) (fun _ _ _ _ _ => dts_nil) (fun _ _ _ _ _ => (dcall ok__law_flip hr (by decide) takes0N (da_cons (de_v 0) da_nil))) rfl (js := [2]) (by decide)) da_nil))))
end

/-! #### _law_word_of -/
abbrev s__law_word_of : Stmt := topS 34
abbrev N__law_word_of : List Str := ["_law_flip_here"]
theorem sc__law_word_of : FnScope N__law_word_of ["_law_flip_here"] (defScope s__law_word_of) := ⟨rfl, rfl, rfl, by decide +kernel, rfl, by decide +kernel, by decide +kernel⟩
def d__law_word_of : FS :=
      (sRet (eOp addD (eOp ixD (eV 0) (eC (.int 0))) (eBi strD (aCons (eOp ixD (eV 0) (eC (.int 1))) aNil))))
def f__law_word_of : List S → Mu → Out S := fnD 1 d__law_word_of
section
variable {P : Program} {w : World} {K : PySem.W.Frag} {mg : Str → Option Value} {base : Heap}
theorem at__law_word_of (T : At K mg "_law_word_of" s__law_word_of ["_law_flip_here"]) (nb_str : NoB mg "str") : FnAt P w K mg base 1 "_law_word_of" 1 f__law_word_of := by
  refine T.go' (k := 0) (nn := 1) (body := d__law_word_of) sc__law_word_of rfl rfl rfl rfl fun f cdv A outer s H E hr => ?_
  exact (dss_one (ds_ret (de_op op_addA snd_add (de_ix ix_seq snd_ix (de_v 0) de_int (fun _ _ => rfl)) (de_ty call_str_int snd_str nb_str.no (by decide +kernel) (da_cons (de_ix ix_seq snd_ix (de_v 0) de_int (fun _ _ => rfl)) da_nil)))))
end

/-! #### _law_text -/
abbrev s__law_text : Stmt := topS 35
abbrev N__law_text : List Str := ["_law_script_so", "_law_flip_here"]
theorem sc__law_text : FnScope N__law_text ["_law_script_so"] (defScope s__law_text) := ⟨rfl, rfl, rfl, by decide +kernel, rfl, by decide +kernel, by decide +kernel⟩
def d__law_text : FS :=
      (sRet (eIf (bT (eOp neD (eV 0) (eTup aNil))) (eMt joinD (eC (.str " ")) (eLc (iSeq (eV 0)) (gN 1) bYes (eCall 1 f__law_word_of (aCons (eV 1) aNil)) [1])) (eC (.str "-"))))
def f__law_text : List S → Mu → Out S := fnD 2 d__law_text
section
variable {P : Program} {w : World} {K : PySem.W.Frag} {mg : Str → Option Value} {base : Heap}
theorem at__law_text (T : At K mg "_law_text" s__law_text ["_law_script_so"]) (ok__law_word_of : FnAt P w K mg base 1 "_law_word_of" 1 f__law_word_of) : FnAt P w K mg base 2 "_law_text" 1 f__law_text := by
  refine T.go' (k := 1) (nn := 2) (body := d__law_text) sc__law_text rfl rfl rfl rfl fun f cdv A outer s H E hr => ?_
  exact (dss_one (ds_ret (de_if (dt_cmp (op_neD hr.units) snd_ne (de_v 0) (de_tup da_nil) (nomark _)) (de_join de_str (de_lc rfl sc__law_text.nd (di_seq (de_v 0)) (blkOk_by (own := [("_law_flip_here", 1)]) (N := N__law_text) (sc := defScope s__law_text) (by decide +kernel)) (fun _ _ _ _ _ => (dg_name sc__law_text.nd rfl (by first | exact Or.inl rfl | exact Or.inr rfl) (by decide))) (fun _ _ _ _ _ => dts_nil) (fun _ _ _ _ _ => (dcall ok__law_word_of hr (by decide) takes0N (da_cons (de_v 1) da_nil))) rfl (js := [1]) (by decide))) de_str)))
end

/-! #### _law_due -/
abbrev s__law_due : Stmt := topS 36
abbrev N__law_due : List Str := ["_law_text_so", "_law_every", "_law_many", "_law_found", "_law_at", "_law_word_so", "_law_some", "_law_flip_here"]
theorem sc__law_due : FnScope N__law_due ["_law_text_so"] (defScope s__law_due) := ⟨rfl, rfl, rfl, by decide +kernel, rfl, by decide +kernel, by decide +kernel⟩
def lb1__law_due : FS :=
      (sSeq (sSet 6 (eLc (iSeq (eV 1)) (gN 7) (bT (eOp eqD (eCall 1 f__law_word_of (aCons (eV 7) aNil)) (eV 5))) (eV 7) [7]))
      (sSeq (sIf (bT (eOp eqD (eV 6) (eLst aNil)))
      (sRet (eOp addD (eV 4) (eC (.int 1))))
      sNil)
      (sApp (eV 3) (eOp ixD (eV 6) (eC (.int 0))))))
def d__law_due : FS :=
      (sSeq (sIf (bNot (bT (eBi isiD (aCons (eV 0) (aCons (eC (.ty "str")) aNil)))))
      (sRet (eC (.int 0)))
      sNil)
      (sSeq (sIf (bT (eOp eqD (eV 0) (eC (.str "-"))))
      (sRet (eTup aNil))
      sNil)
      (sSeq (sSet 1 (eOp addD (eLc (iRange1 (aCons (eC (.int 7)) aNil)) (gN 2) bYes (eTup (aCons (eC (.str "but")) (aCons (eV 2) aNil))) [2]) (eLc (iRange2 (aCons (eC (.int 1)) (aCons (eC (.int 7)) aNil))) (gN 2) bYes (eTup (aCons (eC (.str "top")) (aCons (eV 2) aNil))) [2])))
      (sSeq (sSet 3 (eCell aNil))
      (sSeq (sFor (iEnm (eMt splitD (eV 0) (eC (.str " ")))) (gT 2 (gsC (gN 4) (gsC (gN 5) gsN)))
      lb1__law_due)
      (sRet (eIf (bT (eOp ltD (eBi lenD (aCons (eV 3) aNil)) (eC (.int 9)))) (eBi tupleD (aCons (eV 3) aNil)) (eC (.int 9)))))))))
def f__law_due : List S → Mu → Out S := fnD 8 d__law_due
section
variable {P : Program} {w : World} {K : PySem.W.Frag} {mg : Str → Option Value} {base : Heap}
theorem at__law_due (T : At K mg "_law_due" s__law_due ["_law_text_so"]) (ok__law_word_of : FnAt P w K mg base 1 "_law_word_of" 1 f__law_word_of) (nb_str : NoB mg "str") (nb_isinstance : NoB mg "isinstance") (nb_range : NoB mg "range") (nb_enumerate : NoB mg "enumerate") (nb_len : NoB mg "len") (nb_tuple : NoB mg "tuple") : FnAt P w K mg base 2 "_law_due" 1 f__law_due := by
  refine T.go' (k := 1) (nn := 8) (body := d__law_due) sc__law_due rfl rfl rfl rfl fun f cdv A outer s H E hr => ?_
  exact (dss_cons (ds_if (dt_not (dt_val (de_bi call_isi snd_isi nb_isinstance.no PyProof.Rows.boot_isinstance (da_cons (de_v 0) (da_cons (de_cls nb_str.no (by decide +kernel)) da_nil)))))
      (dss_one (ds_ret de_int))
      dss_nil)
      (dss_cons (ds_if (dt_cmp (op_eqD hr.units) snd_eq (de_v 0) de_str (nomark _))
      (dss_one (ds_ret (de_tup da_nil)))
      dss_nil)
      (dss_cons (ds_set (i := 1) sc__law_due.nd rfl (Or.inl rfl) (de_op op_addA snd_add (de_lc rfl sc__law_due.nd (di_range1 nb_range.no (da_cons de_int da_nil)) (blkOk_by (own := [("_law_many", 2)]) (N := N__law_due) (sc := defScope s__law_due) (by decide +kernel)) (fun _ _ _ _ _ => (dg_name sc__law_due.nd rfl (by first | exact Or.inl rfl | exact Or.inr rfl) (by decide))) (fun _ _ _ _ _ => dts_nil) (fun _ _ _ _ _ => (de_tup (da_cons de_str (da_cons (de_v 2) da_nil)))) rfl (js := [2]) (by decide)) (de_lc rfl sc__law_due.nd (di_range2 nb_range.no (da_cons de_int (da_cons de_int da_nil))) (blkOk_by (own := [("_law_many", 2)]) (N := N__law_due) (sc := defScope s__law_due) (by decide +kernel)) (fun _ _ _ _ _ => (dg_name sc__law_due.nd rfl (by first | exact Or.inl rfl | exact Or.inr rfl) (by decide))) (fun _ _ _ _ _ => dts_nil) (fun _ _ _ _ _ => (de_tup (da_cons de_str (da_cons (de_v 2) da_nil)))) rfl (js := [2]) (by decide))))
      (dss_cons (ds_set (i := 3) sc__law_due.nd rfl (Or.inl rfl) (de_cell da_nil))
      (dss_cons (ds_for (js := [4, 5]) (passes_of rfl) rfl (di_enm nb_enumerate.no (de_split (de_v 0) de_str)) (dg_tup rfl (dgs_cons (dg_name sc__law_due.nd rfl (by first | exact Or.inl rfl | exact Or.inr rfl) (by decide)) (dgs_cons (dg_name sc__law_due.nd rfl (by first | exact Or.inl rfl | exact Or.inr rfl) (by decide)) dgs_nil)))
      (dss_cons (ds_setLc (i := 6) rfl sc__law_due.nd rfl rfl (sw_true rfl rfl rfl (by decide +kernel)) (di_seq (de_v 1)) (blkOk_by (own := [("_law_flip_here", 7)]) (N := N__law_due) (sc := defScope s__law_due) (by decide +kernel)) (fun _ _ _ _ _ => (dg_name sc__law_due.nd rfl (by first | exact Or.inl rfl | exact Or.inr rfl) (by decide))) (fun _ _ _ _ _ => (dts_one (dt_cmp (op_eqD hr.units) snd_eq (dcall ok__law_word_of hr (by decide) takes0N (da_cons (de_v 7) da_nil)) (de_v 5) (nomark _)))) (fun _ _ _ _ _ => (de_v 7)) rfl (js := [7]) (by decide))
      (dss_cons (ds_if (dt_cmp (op_eqD hr.units) snd_eq (de_v 6) (de_lst da_nil) (nomark _))
      (dss_one (ds_ret (de_op op_addA snd_add (de_v 4) de_int)))
      dss_nil)
      (dss_one (ds_app (de_v 3) (de_ix ix_seq snd_ix (de_v 6) de_int (fun _ _ => rfl)) (fun po pa => ps_expr (pe_bm PySem.F.plainAttrs_list PySem.F.slot_list_append PySem.F.type_list_append mt_append po pa)))))))
      (dss_one (ds_ret (de_if (dt_cmp op_lt snd_cmp (de_bi call_lenA snd_len nb_len.no PySem.boot_len (da_cons (de_v 3) da_nil)) de_int (nomark _)) (de_ty call_tuple_of snd_tuple nb_tuple.no PyProof.Rows.boot_tuple (da_cons (de_v 3) da_nil)) de_int))))))))
end

/-! #### _law_read -/
abbrev s__law_read : Stmt := topS 37
abbrev N__law_read : List Str := ["_law_value", "_law_e"]
theorem sc__law_read : FnScope N__law_read ["_law_value"] (defScope s__law_read) := ⟨rfl, rfl, rfl, by decide +kernel, rfl, by decide +kernel, by decide +kernel⟩
def d__law_read : FS :=
      (sTryF "InvalidText" "word" 1 (eCall 1 f_read_script (aCons (eV 0) aNil)))
def f__law_read : List S → Mu → Out S := fnD 2 d__law_read
section
variable {P : Program} {w : World} {K : PySem.W.Frag} {mg : Str → Option Value} {base : Heap}
theorem at__law_read (T : At K mg "_law_read" s__law_read ["_law_value"]) (ok_read_script : FnAt P w K mg base 3 "read_script" 1 f_read_script) (ef_InvalidText : ExcF P w K mg base "InvalidText" "word") : FnAt P w K mg base 4 "_law_read" 1 f__law_read := by
  refine T.go' (k := 3) (nn := 2) (body := d__law_read) sc__law_read rfl rfl rfl rfl fun f cdv A outer s H E hr => ?_
  exact (dss_one (ds_tryF (i := 1) rfl rfl sc__law_read.nd rfl rfl (L2N.takes_of rfl rfl rfl rfl) ef_InvalidText rfl (fun W pn xe tk => (dcall ok_read_script hr (by decide) tk (da_cons (de_v 0) da_nil)))))
end

/-! #### _law_bent -/
abbrev s__law_bent : Stmt := topS 38
abbrev N__law_bent : List Str := ["_law_source_here", "_law_text_so", "_law_at", "_law_way", "_law_more", "_law_words_so", "_law_here", "_law_some"]
theorem sc__law_bent : FnScope N__law_bent ["_law_source_here", "_law_text_so"] (defScope s__law_bent) := ⟨rfl, rfl, rfl, by decide +kernel, rfl, by decide +kernel, by decide +kernel⟩
def d__law_bent : FS :=
      (sSeq (sPar 2 3 (aCons (eCall 2 f__law_pick (aCons (eV 0) (aCons (eOp addD (eBi lenD (aCons (eV 1) aNil)) (eC (.int 1))) aNil))) (aCons (eCall 2 f__law_pick (aCons (eV 0) (aCons (eC (.int 4)) aNil))) aNil)))
      (sSeq (sIf (bT (eOp eqD (eV 3) (eC (.int 0))))
      (sSeq (sSet 4 (eCall 2 f__law_chosen (aCons (eV 0) (aCons (eLst (aCons (eC (.str " ")) (aCons (eC (.str "0")) (aCons (eC (.str "6")) (aCons (eC (.str "7")) (aCons (eC (.str "-")) (aCons (eC (.str "t")) (aCons (eC (.str "\n")) (aCons (eC (.str "but")) (aCons (eC (.str " top1")) aNil)))))))))) aNil))))
      (sRet (eOp addD (eOp addD (eSl (eV 1) oNone (oSome (eV 2))) (eV 4)) (eSl (eV 1) (oSome (eV 2)) oNone))))
      sNil)
      (sSeq (sIf (bT (eOp eqD (eV 3) (eC (.int 1))))
      (sRet (eOp addD (eSl (eV 1) oNone (oSome (eV 2))) (eSl (eV 1) (oSome (eOp addD (eV 2) (eC (.int 1)))) oNone)))
      sNil)
      (sSeq (sSet 5 (eMt splitD (eV 1) (eC (.str " "))))
      (sSeq (sSet 6 (eCall 2 f__law_pick (aCons (eV 0) (aCons (eBi lenD (aCons (eV 5) aNil)) aNil))))
      (sSeq (sSet 7 (eLst (aCons (eC (.str "top1")) (aCons (eC (.str "top0")) (aCons (eC (.str "top7")) (aCons (eC (.str "but0")) (aCons (eC (.str "but6")) (aCons (eC (.str "but7")) (aCons (eC (.str "but00")) (aCons (eC (.str "Top1")) (aCons (eC (.str "-")) (aCons (eC (.str "")) (aCons (eC (.str "top")) (aCons (eC (.str "1")) (aCons (eC (.str "but-0")) aNil)))))))))))))))
      (sRet (eMt joinD (eC (.str " ")) (eOp addD (eOp addD (eSl (eV 5) oNone (oSome (eV 6))) (eLst (aCons (eCall 2 f__law_chosen (aCons (eV 0) (aCons (eV 7) aNil))) aNil))) (eSl (eV 5) (oSome (eOp addD (eV 6) (eBi intD (aCons (eOp eqD (eV 3) (eC (.int 2))) aNil)))) oNone))))))))))
def f__law_bent : List S → Mu → Out S := fnD 8 d__law_bent
section
variable {P : Program} {w : World} {K : PySem.W.Frag} {mg : Str → Option Value} {base : Heap}
theorem at__law_bent (T : At K mg "_law_bent" s__law_bent ["_law_source_here", "_law_text_so"]) (ok__law_pick : FnAt P w K mg base 1 "_law_pick" 2 f__law_pick) (ok__law_chosen : FnAt P w K mg base 2 "_law_chosen" 2 f__law_chosen) (nb_len : NoB mg "len") (nb_int : NoB mg "int") : FnAt P w K mg base 3 "_law_bent" 2 f__law_bent := by
  refine T.go' (k := 2) (nn := 8) (body := d__law_bent) sc__law_bent rfl rfl rfl rfl fun f cdv A outer s H E hr => ?_
  exact (dss_cons (ds_par (i := 2) (j := 3) rfl sc__law_bent.nd rfl rfl (by decide) rfl rfl (da_cons (dcall ok__law_pick hr (by decide) (L2N.takes_of rfl rfl rfl rfl) (da_cons (de_v 0) (da_cons (de_op op_addA snd_add (de_bi call_lenA snd_len nb_len.no PySem.boot_len (da_cons (de_v 1) da_nil)) de_int) da_nil))) (da_cons (dcall ok__law_pick hr (by decide) (L2N.takes_of rfl rfl rfl rfl) (da_cons (de_v 0) (da_cons de_int da_nil))) da_nil)) (fun pa => ps_par rfl sc__law_bent.nd rfl rfl (by decide) rfl rfl pa (by rfl)))
      (dss_cons (ds_if (dt_cmp (op_eqD hr.units) snd_eq (de_v 3) de_int (nomark _))
      (dss_cons (ds_set (i := 4) sc__law_bent.nd rfl (Or.inl rfl) (dcall ok__law_chosen hr (by decide) (L2N.takes_of rfl rfl rfl rfl) (da_cons (de_v 0) (da_cons (de_lst (da_cons de_str (da_cons de_str (da_cons de_str (da_cons de_str (da_cons de_str (da_cons de_str (da_cons de_str (da_cons de_str (da_cons de_str da_nil)))))))))) da_nil))))
      (dss_one (ds_ret (de_op op_addA snd_add (de_op op_addA snd_add (de_sl (de_v 1) do_none (do_some (de_v 2))) (de_v 4)) (de_sl (de_v 1) (do_some (de_v 2)) do_none)))))
      dss_nil)
      (dss_cons (ds_if (dt_cmp (op_eqD hr.units) snd_eq (de_v 3) de_int (nomark _))
      (dss_one (ds_ret (de_op op_addA snd_add (de_sl (de_v 1) do_none (do_some (de_v 2))) (de_sl (de_v 1) (do_some (de_op op_addA snd_add (de_v 2) de_int)) do_none))))
      dss_nil)
      (dss_cons (ds_set (i := 5) sc__law_bent.nd rfl (Or.inl rfl) (de_split (de_v 1) de_str))
      (dss_cons (ds_set (i := 6) sc__law_bent.nd rfl (Or.inl rfl) (dcall ok__law_pick hr (by decide) (L2N.takes_of rfl rfl rfl rfl) (da_cons (de_v 0) (da_cons (de_bi call_lenA snd_len nb_len.no PySem.boot_len (da_cons (de_v 5) da_nil)) da_nil))))
      (dss_cons (ds_set (i := 7) sc__law_bent.nd rfl (Or.inl rfl) (de_lst (da_cons de_str (da_cons de_str (da_cons de_str (da_cons de_str (da_cons de_str (da_cons de_str (da_cons de_str (da_cons de_str (da_cons de_str (da_cons de_str (da_cons de_str (da_cons de_str (da_cons de_str da_nil)))))))))))))))
      (dss_one (ds_ret (de_join de_str (de_op op_addA snd_add (de_op op_addA snd_add (de_sl (de_v 5) do_none (do_some (de_v 6))) (de_lst (da_cons (dcall ok__law_chosen hr (by decide) (L2N.takes_of rfl rfl rfl rfl) (da_cons (de_v 0) (da_cons (de_v 7) da_nil))) da_nil))) (de_sl (de_v 5) (do_some (de_op op_addA snd_add (de_v 6) (de_ty call_int1 snd_int nb_int.no PyProof.Rows.boot_int (da_cons (de_cmp (op_eqD hr.units) snd_eq (de_v 3) de_int (nomark _)) da_nil)))) do_none)))))))))))
end

/-! #### _law_written -/
abbrev s__law_written : Stmt := topS 39
abbrev N__law_written : List Str := ["_law_some", "_law_text_so", "_law_due_here"]
theorem sc__law_written : FnScope N__law_written [] (defScope s__law_written) := ⟨rfl, rfl, rfl, by decide +kernel, rfl, by decide +kernel, by decide +kernel⟩
def d__law_written : FS :=
      (sSeq (sIf (bOr (bT (eOp neD (eCall 1 f_script_text (aCons (eTup (aCons (eTup (aCons (eC (.str "top")) (aCons (eC (.int 3)) aNil))) (aCons (eTup (aCons (eC (.str "but")) (aCons (eC (.int 1)) aNil))) aNil))) aNil)) (eC (.str "top3 but1")))) (bOr (bT (eOp neD (eCall 1 f_script_text (aCons (eTup aNil) aNil)) (eC (.str "-")))) (bT (eOp neD (eCall 1 f_read_script (aCons (eC (.str "-")) aNil)) (eTup aNil)))))
      (sRet (eC (.bl false)))
      sNil)
      (sSeq (sIf (bT (eOp neD (eCall 1 f_read_script (aCons (eC (.str "but0 but1")) aNil)) (eTup (aCons (eTup (aCons (eC (.str "but")) (aCons (eC (.int 0)) aNil))) (aCons (eTup (aCons (eC (.str "but")) (aCons (eC (.int 1)) aNil))) aNil)))))
      (sRet (eC (.bl false)))
      sNil)
      (sSeq (sIf (bT (eOp neD (eCall 1 f_read_script (aCons (eMt joinD (eC (.str " ")) (eOp mulD (eLst (aCons (eC (.str "top6")) aNil)) (eC (.int 8)))) aNil)) (eOp mulD (eTup (aCons (eTup (aCons (eC (.str "top")) (aCons (eC (.int 6)) aNil))) aNil)) (eC (.int 8)))))
      (sRet (eC (.bl false)))
      sNil)
      (sSeq (sSet 0 (eLst (aCons (eTup (aCons (eC (.str "")) (aCons (eC (.int 1)) aNil))) (aCons (eTup (aCons (eC .non) (aCons (eC (.int 0)) aNil))) (aCons (eTup (aCons (eC (.str "-  -")) (aCons (eC (.int 1)) aNil))) (aCons (eTup (aCons (eC (.str "top1 ")) (aCons (eC (.int 2)) aNil))) aNil))))))
      (sSeq (sSet 0 (eOp addD (eV 0) (eLst (aCons (eTup (aCons (eC (.str " top1")) (aCons (eC (.int 1)) aNil))) (aCons (eTup (aCons (eC (.str "top1  but0")) (aCons (eC (.int 2)) aNil))) (aCons (eTup (aCons (eC (.str "top0")) (aCons (eC (.int 1)) aNil))) (aCons (eTup (aCons (eC (.str "but7")) (aCons (eC (.int 1)) aNil))) aNil)))))))
      (sSeq (sSet 0 (eOp addD (eV 0) (eLst (aCons (eTup (aCons (eMt joinD (eC (.str " ")) (eOp mulD (eLst (aCons (eC (.str "top1")) aNil)) (eC (.int 9)))) (aCons (eC (.int 9)) aNil))) (aCons (eTup (aCons (eMt joinD (eC (.str " ")) (eOp mulD (eLst (aCons (eC (.str "top1")) aNil)) (eC (.int 30)))) (aCons (eC (.int 9)) aNil))) aNil)))))
      (sSeq (sSet 0 (eOp addD (eV 0) (eLst (aCons (eTup (aCons (eMt joinD (eC (.str " ")) (eOp addD (eOp mulD (eLst (aCons (eC (.str "top1")) aNil)) (eC (.int 9))) (eLst (aCons (eC (.str "x")) aNil)))) (aCons (eC (.int 10)) aNil))) aNil))))
      (sSeq (sSet 0 (eOp addD (eV 0) (eLst (aCons (eTup (aCons (eC (.str "top1 -")) (aCons (eC (.int 2)) aNil))) (aCons (eTup (aCons (eC (.str "- top1")) (aCons (eC (.int 1)) aNil))) (aCons (eTup (aCons (eC (.str "top01")) (aCons (eC (.int 1)) aNil))) (aCons (eTup (aCons (eC (.str "but1\n")) (aCons (eC (.int 1)) aNil))) aNil)))))))
      (sSeq (sSet 0 (eOp addD (eV 0) (eLst (aCons (eTup (aCons (eC (.str "TOP1")) (aCons (eC (.int 1)) aNil))) (aCons (eTup (aCons (eTup (aCons (eC (.str "top")) (aCons (eC (.int 1)) aNil))) (aCons (eC (.int 0)) aNil))) (aCons (eTup (aCons (eC (.str "top1,but0")) (aCons (eC (.int 1)) aNil))) aNil))))))
      (sSeq (sIf (bT (eOp neD (eLc (iSeq (eV 0)) (gT 2 (gsC (gN 1) (gsC (gN 2) gsN))) (bT (eOp neD (eCall 1 f__law_read (aCons (eV 1) aNil)) (eV 2))) (eV 1) [1, 2]) (eLst aNil)))
      (sRet (eC (.bl false)))
      sNil)
      (sRet (eOp eqD (eRef kinds9 (eCall 1 f_script_text (aCons (eC (.int 0)) aNil))) (eC (.str "script"))))))))))))))
def f__law_written : List S → Mu → Out S := fnD 3 d__law_written
section
variable {P : Program} {w : World} {K : PySem.W.Frag} {mg : Str → Option Value} {base : Heap}
theorem at__law_written (T : AtL K mg "_law_written" s__law_written []) (hT : TabsOk K base mg) (ok_script_text : FnAt P w K mg base 6 "script_text" 1 f_script_text) (ok_read_script : FnAt P w K mg base 3 "read_script" 1 f_read_script) (ok__law_read : FnAt P w K mg base 4 "_law_read" 1 f__law_read) (ok__law_refused : RefAt P w K mg base 6 kinds9) : FnAt P w K mg base 9 "_law_written" 0 f__law_written := by
  refine T.go' (k := 8) (nn := 3) (body := d__law_written) sc__law_written hT (by decide) rfl rfl rfl rfl fun f cdv A outer s H E hL hr => ?_
  exact (dss_cons (ds_if (dt_w (dw_or (dt_cmp (op_neD hr.units) snd_ne (dcall ok_script_text hr (by decide) (L2N.takes_of rfl rfl rfl rfl) (da_cons (de_tup (da_cons (de_tup (da_cons de_str (da_cons de_int da_nil))) (da_cons (de_tup (da_cons de_str (da_cons de_int da_nil))) da_nil))) da_nil)) de_str (nomark _)) (dw_or (dt_cmp (op_neD hr.units) snd_ne (dcall ok_script_text hr (by decide) (L2N.takes_of rfl rfl rfl rfl) (da_cons (de_tup da_nil) da_nil)) de_str (nomark _)) (dw_or1 (dt_cmp (op_neD hr.units) snd_ne (dcall ok_read_script hr (by decide) (L2N.takes_of rfl rfl rfl rfl) (da_cons de_str da_nil)) (de_tup da_nil) (nomark _))))))
      (dss_one (ds_ret de_bl))
      dss_nil)
      (dss_cons (ds_if (dt_cmp (op_neD hr.units) snd_ne (dcall ok_read_script hr (by decide) (L2N.takes_of rfl rfl rfl rfl) (da_cons de_str da_nil)) (de_tup (da_cons (de_tup (da_cons de_str (da_cons de_int da_nil))) (da_cons (de_tup (da_cons de_str (da_cons de_int da_nil))) da_nil))) (nomark _))
      (dss_one (ds_ret de_bl))
      dss_nil)
      (dss_cons (ds_if (dt_cmp (op_neD hr.units) snd_ne (dcall ok_read_script hr (by decide) (L2N.takes_of rfl rfl rfl rfl) (da_cons (de_join de_str (de_op op_mulA snd_mul (de_lst (da_cons de_str da_nil)) de_int)) da_nil)) (de_op op_mulA snd_mul (de_tup (da_cons (de_tup (da_cons de_str (da_cons de_int da_nil))) da_nil)) de_int) (nomark _))
      (dss_one (ds_ret de_bl))
      dss_nil)
      (dss_cons (ds_set (i := 0) sc__law_written.nd rfl (Or.inl rfl) (de_lst (da_cons (de_tup (da_cons de_str (da_cons de_int da_nil))) (da_cons (de_tup (da_cons de_non (da_cons de_int da_nil))) (da_cons (de_tup (da_cons de_str (da_cons de_int da_nil))) (da_cons (de_tup (da_cons de_str (da_cons de_int da_nil))) da_nil))))))
      (dss_cons (ds_set (i := 0) sc__law_written.nd rfl (Or.inl rfl) (de_op op_addA snd_add (de_v 0) (de_lst (da_cons (de_tup (da_cons de_str (da_cons de_int da_nil))) (da_cons (de_tup (da_cons de_str (da_cons de_int da_nil))) (da_cons (de_tup (da_cons de_str (da_cons de_int da_nil))) (da_cons (de_tup (da_cons de_str (da_cons de_int da_nil))) da_nil)))))))
      (dss_cons (ds_set (i := 0) sc__law_written.nd rfl (Or.inl rfl) (de_op op_addA snd_add (de_v 0) (de_lst (da_cons (de_tup (da_cons (de_join de_str (de_op op_mulA snd_mul (de_lst (da_cons de_str da_nil)) de_int)) (da_cons de_int da_nil))) (da_cons (de_tup (da_cons (de_join de_str (de_op op_mulA snd_mul (de_lst (da_cons de_str da_nil)) de_int)) (da_cons de_int da_nil))) da_nil)))))
      (dss_cons (ds_set (i := 0) sc__law_written.nd rfl (Or.inl rfl) (de_op op_addA snd_add (de_v 0) (de_lst (da_cons (de_tup (da_cons (de_join de_str (de_op op_addA snd_add (de_op op_mulA snd_mul (de_lst (da_cons de_str da_nil)) de_int) (de_lst (da_cons de_str da_nil)))) (da_cons de_int da_nil))) da_nil))))
      (dss_cons (ds_set (i := 0) sc__law_written.nd rfl (Or.inl rfl) (de_op op_addA snd_add (de_v 0) (de_lst (da_cons (de_tup (da_cons de_str (da_cons de_int da_nil))) (da_cons (de_tup (da_cons de_str (da_cons de_int da_nil))) (da_cons (de_tup (da_cons de_str (da_cons de_int da_nil))) (da_cons (de_tup (da_cons de_str (da_cons de_int da_nil))) da_nil)))))))
      (dss_cons (ds_set (i := 0) sc__law_written.nd rfl (Or.inl rfl) (de_op op_addA snd_add (de_v 0) (de_lst (da_cons (de_tup (da_cons de_str (da_cons de_int da_nil))) (da_cons (de_tup (da_cons (de_tup (da_cons de_str (da_cons de_int da_nil))) (da_cons de_int da_nil))) (da_cons (de_tup (da_cons de_str (da_cons de_int da_nil))) da_nil))))))
      (dss_cons (ds_if (dt_cmp (op_neD hr.units) snd_ne (de_lc rfl sc__law_written.nd (di_seq (de_v 0)) (blkOk_by (own := [("_law_text_so", 1), ("_law_due_here", 2)]) (N := N__law_written) (sc := defScope s__law_written) (by decide +kernel)) (fun _ _ _ _ _ => (dg_tup rfl (dgs_cons (dg_name sc__law_written.nd rfl (by first | exact Or.inl rfl | exact Or.inr rfl) (by decide)) (dgs_cons (dg_name sc__law_written.nd rfl (by first | exact Or.inl rfl | exact Or.inr rfl) (by decide)) dgs_nil)))) (fun _ _ _ _ _ => (dts_one (dt_cmp (op_neD hr.units) snd_ne (dcall ok__law_read hr (by decide) takes0N (da_cons (de_v 1) da_nil)) (de_v 2) (nomark _)))) (fun _ _ _ _ _ => (de_v 1)) rfl (js := [1, 2]) (by decide)) (de_lst da_nil) (nomark _))
      (dss_one (ds_ret de_bl))
      dss_nil)
      (dss_one (ds_ret (de_cmp (op_eqD hr.units) snd_eq (de_refused ok__law_refused (hr.mono (by decide)) ⟨hL.ex⟩ (LamX.lamS_by (sc := defScope s__law_written) (by decide +kernel)) (fun _ _ _ _ _ _ _ hr => (dcall ok_script_text hr (by decide) (L2N.takes_of rfl rfl rfl rfl) (da_cons de_int da_nil)))) de_str (nomark _))))))))))))))
end

/-! #### law -/
abbrev s_law : Stmt := topS 40
abbrev N_law : List Str := ["_law_script_here", "_law_k", "_law_source_here", "_law_script_so", "_law_text_so", "_law_turn", "_law_bent_here", "_law_odd"]
theorem sc_law : FnScope N_law ["_law_script_here"] (defScope s_law) := ⟨rfl, rfl, rfl, by decide +kernel, rfl, by decide +kernel, by decide +kernel⟩
def lb1_law : FS :=
      (sSeq (sSet 6 (eCall 2 f__law_bent (aCons (eV 2) (aCons (eV 4) aNil))))
      (sSeq (sSet 6 (eIf (bT (eOp eqD (eOp modD (eV 5) (eC (.int 3))) (eC (.int 0)))) (eCall 2 f__law_bent (aCons (eV 2) (aCons (eV 6) aNil))) (eV 6)))
      (sIf (bT (eOp neD (eCall 1 f__law_read (aCons (eV 6) aNil)) (eCall 1 f__law_due (aCons (eV 6) aNil))))
      (sRet (eC (.bl false)))
      sNil)))
def lb2_law : FS :=
      (sIf (bT (eOp neD (eCall 1 f__law_read (aCons (eV 7) aNil)) (eC (.int 0))))
      (sRet (eC (.bl false)))
      sNil)
def lb3_law : FS :=
      (sSeq (sSet 2 (eCall 2 f__law_source (aCons (eV 0) (aCons (eV 1) aNil))))
      (sSeq (sSet 3 (eCall 2 f__law_script (aCons (eV 2) (aCons (eC (.int 8)) aNil))))
      (sSeq (sSet 4 (eCall 1 f__law_text (aCons (eV 3) aNil)))
      (sSeq (sIf (bOr (bT (eOp neD (eCall 1 f_script_text (aCons (eV 3) aNil)) (eV 4))) (bT (eOp neD (eCall 1 f__law_read (aCons (eV 4) aNil)) (eV 3))))
      (sRet (eC (.bl false)))
      sNil)
      (sSeq (sFor (iRange1 (aCons (eC (.int 14)) aNil)) (gN 5)
      lb1_law)
      (sFor (iSeq (eLst (aCons (eC .non) (aCons (eV 3) (aCons (eLst (aCons (eV 4) aNil)) (aCons (eC (.int 5)) aNil)))))) (gN 7)
      lb2_law))))))
def d_law : FS :=
      (sSeq (sFor (iRange1 (aCons (eBi max2D (aCons (eC (.int 6)) (aCons (eBi min2D (aCons (eC (.int 16)) (aCons (eBi lenD (aCons (eV 0) aNil)) aNil))) aNil))) aNil)) (gN 1)
      lb3_law)
      (sRet (eCall0 f__law_written)))
def f_law : List S → Mu → Out S := fnD 8 d_law
section
variable {P : Program} {w : World} {K : PySem.W.Frag} {mg : Str → Option Value} {base : Heap}
theorem at_law {f : Addr} {fd : FuncData} (F : Fun K "law" "law" s_law f fd) (ok__law_source : FnAt P w K mg base 1 "_law_source" 2 f__law_source) (ok__law_script : FnAt P w K mg base 3 "_law_script" 2 f__law_script) (ok__law_text : FnAt P w K mg base 2 "_law_text" 1 f__law_text) (ok_script_text : FnAt P w K mg base 6 "script_text" 1 f_script_text) (ok__law_read : FnAt P w K mg base 4 "_law_read" 1 f__law_read) (ok__law_bent : FnAt P w K mg base 3 "_law_bent" 2 f__law_bent) (ok__law_due : FnAt P w K mg base 2 "_law_due" 1 f__law_due) (ok__law_written : FnAt P w K mg base 9 "_law_written" 0 f__law_written) (nb_range : NoB mg "range") (nb_len : NoB mg "len") (nb_min : NoB mg "min") (nb_max : NoB mg "max") : FnOk P w K mg base (L2N.CX P w) 10 f fd ["_law_script_here"] (spD K mg 1 f_law) := by
  refine fn_go (k := 9) (nn := 8) (body := d_law) F sc_law rfl rfl rfl rfl fun f cdv A outer s H E hr => ?_
  exact (dss_cons (ds_for (js := [1]) (passes_of rfl) rfl (di_range1 nb_range.no (da_cons (de_bi (call_max2 rfl) snd_max2 nb_max.no PyProof.Rows.boot_max (da_cons de_int (da_cons (de_bi (call_min2 rfl) snd_min2 nb_min.no PyProof.Rows.boot_min (da_cons de_int (da_cons (de_bi call_lenA snd_len nb_len.no PySem.boot_len (da_cons (de_v 0) da_nil)) da_nil))) da_nil))) da_nil)) (dg_name sc_law.nd rfl (by first | exact Or.inl rfl | exact Or.inr rfl) (by decide))
      (dss_cons (ds_set (i := 2) sc_law.nd rfl (Or.inl rfl) (dcall ok__law_source hr (by decide) (L2N.takes_of rfl rfl rfl rfl) (da_cons (de_v 0) (da_cons (de_v 1) da_nil))))
      (dss_cons (ds_set (i := 3) sc_law.nd rfl (Or.inl rfl) (dcall ok__law_script hr (by decide) (L2N.takes_of rfl rfl rfl rfl) (da_cons (de_v 2) (da_cons de_int da_nil))))
      (dss_cons (ds_set (i := 4) sc_law.nd rfl (Or.inl rfl) (dcall ok__law_text hr (by decide) (L2N.takes_of rfl rfl rfl rfl) (da_cons (de_v 3) da_nil)))
      (dss_cons (ds_if (dt_w (dw_or (dt_cmp (op_neD hr.units) snd_ne (dcall ok_script_text hr (by decide) (L2N.takes_of rfl rfl rfl rfl) (da_cons (de_v 3) da_nil)) (de_v 4) (nomark _)) (dw_or1 (dt_cmp (op_neD hr.units) snd_ne (dcall ok__law_read hr (by decide) (L2N.takes_of rfl rfl rfl rfl) (da_cons (de_v 4) da_nil)) (de_v 3) (nomark _)))))
      (dss_one (ds_ret de_bl))
      dss_nil)
      (dss_cons (ds_for (js := [5]) (passes_of rfl) rfl (di_range1 nb_range.no (da_cons de_int da_nil)) (dg_name sc_law.nd rfl (by first | exact Or.inl rfl | exact Or.inr rfl) (by decide))
      (dss_cons (ds_set (i := 6) sc_law.nd rfl (Or.inl rfl) (dcall ok__law_bent hr (by decide) (L2N.takes_of rfl rfl rfl rfl) (da_cons (de_v 2) (da_cons (de_v 4) da_nil))))
      (dss_cons (ds_set (i := 6) sc_law.nd rfl (Or.inl rfl) (de_if (dt_cmp (op_eqD hr.units) snd_eq (de_op op_mod snd_mod (de_v 5) de_int) de_int (nomark _)) (dcall ok__law_bent hr (by decide) (L2N.takes_of rfl rfl rfl rfl) (da_cons (de_v 2) (da_cons (de_v 6) da_nil))) (de_v 6)))
      (dss_one (ds_if (dt_cmp (op_neD hr.units) snd_ne (dcall ok__law_read hr (by decide) (L2N.takes_of rfl rfl rfl rfl) (da_cons (de_v 6) da_nil)) (dcall ok__law_due hr (by decide) (L2N.takes_of rfl rfl rfl rfl) (da_cons (de_v 6) da_nil)) (nomark _))
      (dss_one (ds_ret de_bl))
      dss_nil)))))
      (dss_one (ds_for (js := [7]) (passes_of rfl) rfl (di_seq (de_lst (da_cons de_non (da_cons (de_v 3) (da_cons (de_lst (da_cons (de_v 4) da_nil)) (da_cons de_int da_nil)))))) (dg_name sc_law.nd rfl (by first | exact Or.inl rfl | exact Or.inr rfl) (by decide))
      (dss_one (ds_if (dt_cmp (op_neD hr.units) snd_ne (dcall ok__law_read hr (by decide) (L2N.takes_of rfl rfl rfl rfl) (da_cons (de_v 7) da_nil)) de_int (nomark _))
      (dss_one (ds_ret de_bl))
      dss_nil))))))))))
      (dss_one (ds_ret (dcall0 ok__law_written hr (by decide) (L2N.takes_of rfl rfl rfl rfl)))))
end
end Law

set_option maxHeartbeats 2000000
namespace Law
open PySem PySem.Spec PyProof.Rows L2 GF
theorem e_pick : f__law_pick = g_pick := rfl
theorem e_source : f__law_source = g_source := rfl
theorem e_chosen : f__law_chosen = g_chosen := rfl
theorem e_script : f__law_script = g_script := rfl
theorem e_need : f_need_script = g_need_script := rfl
/-! ### the words of flips -/
def wd (f : Fl) : Str := (if f.1 = true then ("top" : Str) else ("but" : Str)) ++ Str.ofString (toString f.2)
def every : List Fl := [(false, 0), (false, 1), (false, 2), (false, 3), (false, 4), (false, 5), (false, 6), (true, 1), (true, 2), (true, 3), (true, 4), (true, 5), (true, 6)]
theorem every_mem {f : Fl} (h : okF f) : f ∈ every := by
  obtain ⟨b, i⟩ := f
  unfold okF at h
  cases b with
  | true =>
    have h : 1 ≤ i ∧ i ≤ 6 := by simpa using h
    have : i = 1 ∨ i = 2 ∨ i = 3 ∨ i = 4 ∨ i = 5 ∨ i = 6 := by omega
    rcases this with z | z | z | z | z | z <;> subst z <;> simp [every]
  | false =>
    have h : 0 ≤ i ∧ i ≤ 6 := by simpa using h
    have : i = 0 ∨ i = 1 ∨ i = 2 ∨ i = 3 ∨ i = 4 ∨ i = 5 ∨ i = 6 := by omega
    rcases this with z | z | z | z | z | z | z <;> subst z <;> simp [every]
theorem all_every {p : Fl → Prop} (h : p (false, 0) ∧ p (false, 1) ∧ p (false, 2) ∧ p (false, 3) ∧ p (false, 4) ∧ p (false, 5) ∧ p (false, 6) ∧ p (true, 1) ∧ p (true, 2) ∧ p (true, 3) ∧ p (true, 4) ∧ p (true, 5) ∧ p (true, 6)) : ∀ f ∈ every, p f := by
  intro f hf
  simp only [every, List.mem_cons, List.not_mem_nil, or_false] at hf
  obtain ⟨h0, h1, h2, h3, h4, h5, h6, h7, h8, h9, h10, h11, h12⟩ := h
  rcases hf with z | z | z | z | z | z | z | z | z | z | z | z | z <;> subst z <;> assumption
theorem ft_rt (μ : Mu) : ∀ f ∈ every, d_flip_text [some (.d (encF f))] μ = .rt (.d (.str (wd f))) μ := all_every (by refine ⟨?_, ?_, ?_, ?_, ?_, ?_, ?_, ?_, ?_, ?_, ?_, ?_, ?_⟩ <;> kernel_rfl)
theorem flip_text_ok {f : Fl} {μ : Mu} (h : f ∈ every) : f_flip_text [.d (encF f)] μ = .ok (.d (.str (wd f))) μ := by
  unfold f_flip_text
  exact fnD_o (ft_rt μ f h) rfl
theorem wo_rt (μ : Mu) : ∀ f ∈ every, d__law_word_of [some (.d (encF f))] μ = .rt (.d (.str (wd f))) μ := all_every (by refine ⟨?_, ?_, ?_, ?_, ?_, ?_, ?_, ?_, ?_, ?_, ?_, ?_, ?_⟩ <;> kernel_rfl)
theorem word_of_ok {f : Fl} {μ : Mu} (h : f ∈ every) : f__law_word_of [.d (encF f)] μ = .ok (.d (.str (wd f))) μ := by
  unfold f__law_word_of
  exact fnD_o (wo_rt μ f h) rfl
def fnd (w : Str) : Option Fl := every.find? fun f => decide (wd f = w)
theorem fnd_wd : ∀ f ∈ every, fnd (wd f) = some f := all_every (by refine ⟨?_, ?_, ?_, ?_, ?_, ?_, ?_, ?_, ?_, ?_, ?_, ?_, ?_⟩ <;> kernel_rfl)
theorem fnd_mem {w : Str} {f : Fl} (h : fnd w = some f) : f ∈ every := List.mem_of_find?_eq_some h
theorem wd_tl : ∀ f ∈ every, (TL.tl (wd f)).all (fun c => decide (c < 256) && decide (c ≠ 32)) = true ∧ (wd f).length = 4 := all_every (by refine ⟨?_, ?_, ?_, ?_, ?_, ?_, ?_, ?_, ?_, ?_, ?_, ?_, ?_⟩ <;> decide +kernel)
theorem zip_find (w : Str) : ∀ L : List Fl, ((L.map wd).zip (L.map encF)).lookup w = (L.find? fun f => decide (wd f = w)).map encF
  | [] => rfl
  | f :: L => by
    rw [List.map_cons, List.map_cons, List.zip_cons_cons, List.lookup_cons, List.find?_cons]
    by_cases e : w = wd f
    · rw [show (w == wd f) = true from beq_iff_eq.mpr e, decide_eq_true e.symm]; rfl
    · rw [show (w == wd f) = false from beq_eq_false_iff_ne.mpr e, decide_eq_false (fun z => e z.symm)]
      exact zip_find w L
/-! ### the known words -/
theorem kd_every : kd_FLIPS = .tup (every.map encF) := rfl
theorem lcD_nil {t : D → Rho → Option Rho} {ft : FB} {fe : FE} {ρ : Rho} {μ : Mu} : lcD t ft fe ρ [] μ = .ok [] μ := by unfold lcD; rfl
theorem lcD_map {α : Type} {fe : FE} {ρ : Rho} {i : Nat} {μ : Mu} (e g : α → D) : ∀ (l : List α), (∀ x ∈ l, fe (ρ.set i (some (.d (e x)))) μ = .ok (.d (g x)) μ) → lcD (gN i) bYes fe ρ (l.map e) μ = .ok (l.map g) μ
  | [], _ => lcD_nil
  | x :: l, h => by
    rw [List.map_cons, List.map_cons]
    exact lcD_one rfl (h x List.mem_cons_self) (lcD_map e g l fun y hy => h y (List.mem_cons_of_mem _ hy))
def knowD : D := .dic (every.map wd) (every.map encF)
theorem dict_known : dictD [.lst (every.map fun f => .tup [.str (wd f), encF f])] = some knowD := by kernel_rfl
theorem dnot_known (w : Str) : dnotD (.str w) knowD = some (.bl (fnd w).isNone) := by
  unfold knowD dnotD fnd
  simp only [zip_find]
  cases every.find? fun f => decide (wd f = w) <;> rfl
theorem dget_known {w : Str} {f : Fl} (h : fnd w = some f) : dgetD knowD (.str w) = some (encF f) := by
  unfold knowD dgetD
  unfold fnd at h
  simp only [zip_find, h]
  rfl
/-! ### reading -/
def parseK : List Str → Nat → List Fl → Sum Nat (List Fl)
  | [], _, acc => .inr acc
  | w :: ws, i, acc => match fnd w with
    | none => .inl (i + 1)
    | some f => parseK ws (i + 1) (acc ++ [f])
theorem sApp_o {fx fe : FE} {ρ : Rho} {μ : Mu} {k : Nat} {l : List D} {d : D} (h1 : fx ρ μ = .ok (.c k) μ) (h2 : μ[k]? = some (.lst l)) (h3 : fe ρ μ = .ok (.d d) μ) (h4 : l.length < cap) : sApp fx fe ρ μ = .nx ρ (μ.set k (.lst (l ++ [d]))) := by
  unfold sApp
  simp only [h1, toS_ok, h2, h3, putCell, if_pos h4]
theorem set_last (μ : Mu) (c c' : Cell) : (μ ++ [c]).set μ.length c' = μ ++ [c'] := by
  rw [List.set_append_right _ _ (Nat.le_refl _), Nat.sub_self]; rfl
theorem get_last (μ : Mu) (c : Cell) : (μ ++ [c])[μ.length]? = some c := by
  rw [List.getElem?_append_right (Nat.le_refl _), Nat.sub_self]; rfl
theorem logI {i : Nat} (h : i ≤ 1000) : ((i : Int) + 1).natAbs.log2 < 1920 := Nat.lt_of_le_of_lt (Nat.log2_le_self _) (by omega)
theorem rd_turn {v : D} {r3 : Option S} {i : Nat} {w : Str} {μ : Mu} {acc : List Fl} (hi : i ≤ 1000) (ha : acc.length ≤ 1000) :
    lb1_read_script [some (.d v), some (.d knowD), some (.c μ.length), r3, some (.d (.int i)), some (.d (.str w))] (μ ++ [.lst (acc.map encF)]) = match fnd w with
      | none => .exc ⟨"InvalidText", [("word", .int ((i : Int) + 1))]⟩ [some (.d v), some (.d knowD), some (.c μ.length), r3, some (.d (.int i)), some (.d (.str w))] (μ ++ [.lst (acc.map encF)])
      | some f => .nx [some (.d v), some (.d knowD), some (.c μ.length), r3, some (.d (.int i)), some (.d (.str w))] (μ ++ [.lst ((acc ++ [f]).map encF)]) := by
  have dn := dnot_known w
  unfold lb1_read_script
  cases e : fnd w with
  | none =>
    rw [e] at dn
    generalize knowD = kk at *
    have ad : addD (.int i) (.int 1) = some (.int ((i : Int) + 1)) := rfl
    simp only [sSeq_o, sIf_o, bT_o, eOp, eV_0, eV_s, bnd1_ok, op2_d, dn, Option.isNone, asB_o, toSB_ok, if_tt, if_true, sRaiseF, eC, ad, toS_ok, if_pos (logI hi), seqO_exc]
  | some f =>
    rw [e] at dn
    have dg := dget_known e
    generalize knowD = kk at *
    have e3 : eOp dgetD (eV 1) (eV 5) [some (.d v), some (.d kk), some (.c μ.length), r3, some (.d (.int i)), some (.d (.str w))] (μ ++ [.lst (acc.map encF)]) = .ok (.d (encF f)) (μ ++ [.lst (acc.map encF)]) := by
      simp only [eOp, eV_0, eV_s, bnd1_ok, op2_d, dg]
    have ap := sApp_o (fx := eV 2) (fe := eOp dgetD (eV 1) (eV 5)) (ρ := [some (.d v), some (.d kk), some (.c μ.length), r3, some (.d (.int i)), some (.d (.str w))]) (by simp only [eV_0, eV_s]) (get_last μ (.lst (acc.map encF))) e3 (by rw [List.length_map]; unfold cap; omega)
    rw [set_last] at ap
    generalize sApp (eV 2) (eOp dgetD (eV 1) (eV 5)) = F at *
    simp only [sSeq_o, sIf_o, bT_o, eOp, eV_0, eV_s, bnd1_ok, op2_d, dn, Option.isNone, asB_o, toSB_ok, if_ff, sNil, seqO_nx, ap, List.map_append, List.map_cons, List.map_nil]
theorem gT45 {v : D} {r1 r2 r3 r4 r5 : Option S} {a b : D} : gT 2 (gsC (gN 4) (gsC (gN 5) gsN)) (.tup [a, b]) [some (.d v), r1, r2, r3, r4, r5] = some [some (.d v), r1, r2, r3, some (.d a), some (.d b)] := rfl
theorem forD_exc {t : D → Rho → Option Rho} {b : FS} {ρ ρ1 ρ2 : Rho} {μ μ2 : Mu} {d : D} {l : List D} {x : Exn} (h : t d ρ = some ρ1) (h2 : b ρ1 μ = .exc x ρ2 μ2) : forD t b (d :: l) ρ μ = .exc x ρ2 μ2 := by
  unfold forD
  rw [h]
  dsimp only
  rw [h2]
theorem rd_loop {v : D} {r3 : Option S} {μ : Mu} : ∀ (ws : List Str) (i : Nat) (acc : List Fl) {a4 a5 : Option S}, i + ws.length ≤ 1000 → acc.length + ws.length ≤ 1000 →
    (∃ w ρ' c, parseK ws i acc = .inl w ∧ forD (gT 2 (gsC (gN 4) (gsC (gN 5) gsN))) lb1_read_script (enumD i (ws.map .str)) [some (.d v), some (.d knowD), some (.c μ.length), r3, a4, a5] (μ ++ [.lst (acc.map encF)]) = .exc ⟨"InvalidText", [("word", .int (w : Nat))]⟩ ρ' (μ ++ [c])) ∨
    ∃ l a4' a5', parseK ws i acc = .inr l ∧ l.length ≤ acc.length + ws.length ∧ forD (gT 2 (gsC (gN 4) (gsC (gN 5) gsN))) lb1_read_script (enumD i (ws.map .str)) [some (.d v), some (.d knowD), some (.c μ.length), r3, a4, a5] (μ ++ [.lst (acc.map encF)]) = .nx [some (.d v), some (.d knowD), some (.c μ.length), r3, a4', a5'] (μ ++ [.lst (l.map encF)])
  | [], i, acc, a4, a5, _, _ => .inr ⟨acc, a4, a5, rfl, by simp, forD_nil _ _ _ _⟩
  | w :: ws, i, acc, a4, a5, h1, h2 => by
    rw [List.length_cons] at h1 h2
    have b := rd_turn (v := v) (r3 := r3) (i := i) (w := w) (μ := μ) (acc := acc) (by omega) (by omega)
    rw [List.map_cons]
    unfold enumD parseK
    cases e : fnd w with
    | none =>
      rw [e] at b
      exact .inl ⟨i + 1, _, _, rfl, forD_exc gT45 b⟩
    | some f =>
      rw [e] at b
      have la : (acc ++ [f]).length = acc.length + 1 := by rw [List.length_append]; rfl
      rcases rd_loop (v := v) (r3 := r3) (μ := μ) ws (i + 1) (acc ++ [f]) (a4 := some (.d (.int i))) (a5 := some (.d (.str w))) (by omega) (by omega) with ⟨w', ρ', c, q1, q2⟩ | ⟨l, a4', a5', q1, q2, q3⟩
      · exact .inl ⟨w', ρ', c, q1, (forD_nx gT45 b).trans q2⟩
      · exact .inr ⟨l, a4', a5', q1, by rw [List.length_cons]; omega, (forD_nx gT45 b).trans q3⟩
end Law

set_option maxHeartbeats 2000000
namespace Law
open PySem PySem.Spec PyProof.Rows L2 GF
theorem fnD_p {N : Nat} {b : FS} {ss : List S} {μ : Mu} {c : Cell} {d : D} (h : b (rho0 N ss) μ = .rt (.d d) (μ ++ [c])) : fnD N b ss μ = .ok (.d d) μ := by
  rw [fnD_rt h]
  unfold retS
  rw [List.take_left' rfl]
theorem fnD_px {N : Nat} {b : FS} {ss : List S} {μ : Mu} {c : Cell} {x : Exn} {ρ : Rho} (h : b (rho0 N ss) μ = .exc x ρ (μ ++ [c])) : fnD N b ss μ = .exc x μ := by
  unfold fnD
  rw [h]
  show Out.exc x ((μ ++ [c]).take μ.length) = _
  rw [List.take_left' rfl]
def readR (t : Str) : D := if t = "-" then .tup [] else match parseK (Txt.split t " ") 0 [] with
  | .inl i => .int i
  | .inr l => if l.length ≤ 8 then encS l else .int 9
def sizeW (ws : List (List Nat)) : Nat := (ws.map List.length).sum + ws.length
theorem spl_size : ∀ (l acc : List Nat), sizeW (TL.spl [32] 0 acc l) = acc.length + l.length + 1
  | [], acc => by
    rw [TL.spl_nil]
    simp [sizeW]
  | c :: r, acc => by
    cases h : TL.pre [32] (c :: r) with
    | true =>
      rw [TL.spl_hit h]
      have ih := spl_size r []
      have e : ([32] : List Nat).length - 1 = 0 := rfl
      rw [e]
      unfold sizeW at *
      rw [List.map_cons, List.sum_cons, List.length_cons, List.length_cons]
      simp only [List.length_nil] at ih
      omega
    | false =>
      rw [TL.spl_miss h]
      have ih := spl_size r (acc ++ [c])
      rw [ih, List.length_append, List.length_cons, List.length_cons, List.length_nil]
      omega
theorem spl_ne (l acc : List Nat) : TL.spl [32] 0 acc l ≠ [] := fun z => by
  have := spl_size l acc
  rw [z] at this
  simp [sizeW] at this
theorem tl_sp : TL.tl (" " : Str) = [32] := by decide +kernel
theorem split_tl (t : Str) : (Txt.split t " ").map TL.tl = TL.spl [32] 0 [] (TL.tl t) := by
  have h := TL.split_spl t " " (by rw [tl_sp]; simp) (TL.kind_ok (by decide +kernel))
  rw [tl_sp] at h
  exact h
theorem split_len (t : Str) : 0 < (Txt.split t " ").length ∧ (Txt.split t " ").length ≤ t.length + 1 := by
  have h := congrArg List.length (split_tl t)
  rw [List.length_map] at h
  have s := spl_size (TL.tl t) []
  have n := spl_ne (TL.tl t) []
  rw [TL.len_tl]
  unfold sizeW at s
  simp only [List.length_nil] at s
  have : 0 < (TL.spl [32] 0 [] (TL.tl t)).length := List.length_pos_iff.mpr n
  omega
theorem splitD_ok {t : Str} (h : t.length ≤ 1000) : splitD t (.str " ") = some (.lst ((Txt.split t " ").map .str)) := by
  unfold splitD
  dsimp only
  rw [if_pos ⟨by decide +kernel, by unfold cap; omega⟩]
theorem enm_ok {t : Str} {ρ : Rho} {μ : Mu} (h : t.length ≤ 1000) : iEnm (eMt splitD (eV 0) (eC (.str " "))) (some (.d (.str t)) :: ρ) μ = .ok (enumD 0 ((Txt.split t " ").map .str)) μ := by
  have e : eMt splitD (eV 0) (eC (.str " ")) (some (.d (.str t)) :: ρ) μ = .ok (.d (.lst ((Txt.split t " ").map .str))) μ := by
    simp only [eMt, eV_0, bnd1_ok, eC, opM, view, splitD_ok h]
  unfold iEnm
  rw [e, bnd1_ok]
theorem known_lc {v : D} {r1 r2 r4 r5 : Option S} {μ : Mu} : eLc (iSeq (eC kd_FLIPS)) (gN 3) bYes (eTup (aCons (eCall 1 f_flip_text (aCons (eV 3) aNil)) (aCons (eV 3) aNil))) [3] [some (.d v), r1, r2, none, r4, r5] μ = .ok (.d (.lst (every.map fun f => .tup [.str (wd f), encF f]))) μ := by
  have h2 := lcD_map (fe := eTup (aCons (eCall 1 f_flip_text (aCons (eV 3) aNil)) (aCons (eV 3) aNil))) (ρ := [some (.d v), r1, r2, none, r4, r5]) (i := 3) (μ := μ) encF (fun f => .tup [.str (wd f), encF f]) every (fun f hf => by
    have e := flip_text_ok (μ := μ) hf
    generalize f_flip_text = G at *
    simp only [List.set, eTup, aCons, aNil, eCall_1, eV_0, eV_s, bnd1_ok, e, mkTup_2])
  have hi : iSeq (eC kd_FLIPS) [some (.d v), r1, r2, none, r4, r5] μ = .ok (every.map encF) μ := by
    rw [kd_every]
    simp only [iSeq, eC, bnd1_ok, seqOf_t]
  have hc : (every.map encF).length ≤ cap := by rw [List.length_map]; decide
  unfold eLc
  rw [hi, bnd1_ok, if_pos hc, show wipeR [some (.d v), r1, r2, none, r4, r5] [3] = [some (.d v), r1, r2, none, r4, r5] from rfl, h2, bnd1_ok]
  rfl
theorem eBi_1 {g : List D → Option D} {f : FE} {ρ : Rho} {μ : Mu} {a z : D} (h : f ρ μ = .ok (.d a) μ) (hg : g [a] = some z) : eBi g (aCons f aNil) ρ μ = .ok (.d z) μ := by
  unfold eBi
  simp only [aCons, aNil, h, bnd1_ok, opA, viewA, view, Option.map_some, hg]
theorem eBi_c {g : List D → Option D} {f : FE} {ρ : Rho} {μ : Mu} {k : Nat} {l : List D} {z : D} (h : f ρ μ = .ok (.c k) μ) (hl : μ[k]? = some (.lst l)) (hg : g [.lst l] = some z) : eBi g (aCons f aNil) ρ μ = .ok (.d z) μ := by
  unfold eBi
  simp only [aCons, aNil, h, bnd1_ok, opA, viewA, view, hl, Option.map_some, hg]
theorem eBi_2 {g : List D → Option D} {f f2 : FE} {ρ : Rho} {μ : Mu} {a b z : D} (h : f ρ μ = .ok (.d a) μ) (h2 : f2 ρ μ = .ok (.d b) μ) (hg : g [a, b] = some z) : eBi g (aCons f (aCons f2 aNil)) ρ μ = .ok (.d z) μ := by
  unfold eBi
  simp only [aCons, aNil, h, h2, bnd1_ok, opA, viewA, view, Option.map_some, hg]
theorem mkCell_0 (μ : Mu) : mkCell [] μ = .ok (.c μ.length) (μ ++ [.lst []]) := by
  unfold mkCell
  have : (0 : Nat) ≤ cap := by decide
  simp only [allD, List.length_nil, if_pos this]
theorem gt_i (i j : Int) : gtD (.int i) (.int j) = some (.bl (decide (i > j))) := rfl
section
variable {lb R0 R1 : FS} {F1 : FE} {F2 : FI} {T : D → Rho → Option Rho} {t : Str} {v kk : D} {ws : List D} {μ : Mu}
abbrev rdB (lb R0 R1 : FS) (F1 : FE) (F2 : FI) (T : D → Rho → Option Rho) : FS :=
  sSeq (sIf (bNot (bT (eBi isiD (aCons (eV 0) (aCons (eC (.ty "str")) aNil))))) R0 sNil)
      (sSeq (sIf (bT (eOp eqD (eV 0) (eC (.str "-")))) (sRet (eTup aNil)) sNil)
      (sSeq (sPar 1 2 (aCons (eBi dictD (aCons F1 aNil)) (aCons (eCell aNil) aNil)))
      (sSeq (sFor F2 T lb)
      (sSeq (sIf (bT (eOp gtD (eBi lenD (aCons (eV 2) aNil)) (eC (.int 8)))) R1 sNil)
      (sRet (eBi tupleD (aCons (eV 2) aNil)))))))
theorem rd_no {r : SO} (hs : isiD [v, .ty "str"] = some (.bl false)) (h0 : R0 [some (.d v), none, none, none, none, none] μ = .exc ⟨"InvalidText", [("word", .int 0)]⟩ [some (.d v), none, none, none, none, none] μ) : rdB lb R0 R1 F1 F2 T [some (.d v), none, none, none, none, none] μ = .exc ⟨"InvalidText", [("word", .int 0)]⟩ [some (.d v), none, none, none, none, none] μ := by
  have e := eBi_2 (g := isiD) (f := eV 0) (f2 := eC (.ty "str")) (ρ := [some (.d v), none, none, none, none, none]) (μ := μ) (by simp only [eV_0]) (by simp only [eC]) hs
  unfold rdB
  generalize eBi isiD (aCons (eV 0) (aCons (eC (.ty "str")) aNil)) = B at *
  simp only [sSeq_o, sIf_o, bNot, bT_o, e, bnd1_ok, asB_o, Bool.not_false, toSB_ok, if_tt, if_true, h0, seqO_exc]
theorem isS (t : Str) : isiD [.str t, .ty "str"] = some (.bl true) := rfl
theorem rd_dash (hq : eqD (.str t) (.str "-") = some (.bl true)) : rdB lb R0 R1 F1 F2 T [some (.d (.str t)), none, none, none, none, none] μ = .rt (.d (.tup [])) μ := by
  have e := eBi_2 (g := isiD) (f := eV 0) (f2 := eC (.ty "str")) (ρ := [some (.d (.str t)), none, none, none, none, none]) (μ := μ) (by simp only [eV_0]) (by simp only [eC]) (isS t)
  unfold rdB
  generalize eBi isiD (aCons (eV 0) (aCons (eC (.ty "str")) aNil)) = B at *
  simp only [sSeq_o, sIf_o, bNot, bT_o, e, bnd1_ok, asB_o, Bool.not_true, toSB_ok, if_ff, sNil, seqO_nx, eOp, eV_0, eC, op2_d, hq, if_tt, if_true, sRet, eTup, aNil, mkTup_0, toS_ok, seqO_rt]
theorem rd_start {r : SO} (hq : eqD (.str t) (.str "-") = some (.bl false)) (h1 : F1 [some (.d (.str t)), none, none, none, none, none] μ = .ok (.d v) μ) (hd : dictD [v] = some kk) (h2 : F2 [some (.d (.str t)), some (.d kk), some (.c μ.length), none, none, none] (μ ++ [.lst []]) = .ok ws (μ ++ [.lst []]))
    (h3 : forD T lb ws [some (.d (.str t)), some (.d kk), some (.c μ.length), none, none, none] (μ ++ [.lst []]) = r) : rdB lb R0 R1 F1 F2 T [some (.d (.str t)), none, none, none, none, none] μ = seqO r (sSeq (sIf (bT (eOp gtD (eBi lenD (aCons (eV 2) aNil)) (eC (.int 8)))) R1 sNil)
      (sRet (eBi tupleD (aCons (eV 2) aNil)))) := by
  have e := eBi_2 (g := isiD) (f := eV 0) (f2 := eC (.ty "str")) (ρ := [some (.d (.str t)), none, none, none, none, none]) (μ := μ) (by simp only [eV_0]) (by simp only [eC]) (isS t)
  have e2 := eBi_1 (g := dictD) h1 hd
  unfold rdB
  generalize eBi isiD (aCons (eV 0) (aCons (eC (.ty "str")) aNil)) = B at *
  generalize eBi dictD (aCons F1 aNil) = B2 at *
  simp only [sSeq_o, sIf_o, bNot, bT_o, e, bnd1_ok, asB_o, Bool.not_true, toSB_ok, if_ff, sNil, seqO_nx, eOp, eV_0, eC, op2_d, hq, sPar, aCons, aNil, e2, eCell, mkCell_0, toSA_ok, List.set, sFor, h2, toSI_ok, h3]
theorem rd_end {r1 r3 r4 r5 : Option S} {l : List D} (h1 : 8 < l.length → R1 [some (.d v), r1, some (.c μ.length), r3, r4, r5] (μ ++ [.lst l]) = .exc ⟨"InvalidText", [("word", .int 9)]⟩ [some (.d v), r1, some (.c μ.length), r3, r4, r5] (μ ++ [.lst l])) :
    sSeq (sIf (bT (eOp gtD (eBi lenD (aCons (eV 2) aNil)) (eC (.int 8)))) R1 sNil) (sRet (eBi tupleD (aCons (eV 2) aNil))) [some (.d v), r1, some (.c μ.length), r3, r4, r5] (μ ++ [.lst l]) =
      if l.length ≤ 8 then .rt (.d (.tup l)) (μ ++ [.lst l]) else .exc ⟨"InvalidText", [("word", .int 9)]⟩ [some (.d v), r1, some (.c μ.length), r3, r4, r5] (μ ++ [.lst l]) := by
  have e1 := eBi_c (g := lenD) (f := eV 2) (ρ := [some (.d v), r1, some (.c μ.length), r3, r4, r5]) (by simp only [eV_0, eV_s]) (get_last μ (.lst l)) (z := .int l.length) rfl
  have e2 := eBi_c (g := tupleD) (f := eV 2) (ρ := [some (.d v), r1, some (.c μ.length), r3, r4, r5]) (by simp only [eV_0, eV_s]) (get_last μ (.lst l)) (z := .tup l) rfl
  generalize eBi lenD (aCons (eV 2) aNil) = B at *
  generalize eBi tupleD (aCons (eV 2) aNil) = B2 at *
  by_cases c : l.length ≤ 8
  · have d : decide ((l.length : Int) > 8) = false := decide_eq_false (by omega)
    rw [if_pos c]
    simp only [sSeq_o, sIf_o, bT_o, eOp, e1, bnd1_ok, eC, op2_d, gt_i, d, asB_o, toSB_ok, if_ff, sNil, seqO_nx, sRet, e2, toS_ok]
  · have d : decide ((l.length : Int) > 8) = true := decide_eq_true (by omega)
    rw [if_neg c]
    simp only [sSeq_o, sIf_o, bT_o, eOp, e1, bnd1_ok, eC, op2_d, gt_i, d, asB_o, toSB_ok, if_tt, if_true, h1 (by omega), seqO_exc]
end
theorem rz_0 {ρ : Rho} {μ : Mu} : sRaiseF "InvalidText" "word" (eC (.int 0)) ρ μ = .exc ⟨"InvalidText", [("word", .int 0)]⟩ ρ μ := by
  unfold sRaiseF
  have : (0 : Int).natAbs.log2 < 1920 := by decide
  simp only [eC, toS_ok, if_pos this]
theorem rz_9 {ρ : Rho} {μ : Mu} : sRaiseF "InvalidText" "word" (eOp addD (eC (.int 8)) (eC (.int 1))) ρ μ = .exc ⟨"InvalidText", [("word", .int 9)]⟩ ρ μ := by
  unfold sRaiseF
  have ad : addD (.int 8) (.int 1) = some (.int 9) := rfl
  have : (9 : Int).natAbs.log2 < 1920 := by decide
  simp only [eOp, eC, bnd1_ok, op2_d, ad, toS_ok, if_pos this]
/-- what is read, or the error -/
theorem read_str {t : Str} {μ : Mu} (hk : PyData.strOk t = true) (hl : t.length ≤ 500) : (f_read_script [.d (.str t)] μ = .ok (.d (readR t)) μ) ∨ ∃ i : Int, readR t = .int i ∧ f_read_script [.d (.str t)] μ = .exc ⟨"InvalidText", [("word", .int i)]⟩ μ := by
  have so : SeqAt.shaped (toPy (.str t)) = true := shaped_of (k := 0) (d := .str t) (by rw [dat]; exact hk) (by decide)
  have so2 : SeqAt.shaped (toPy (.str "-")) = true := by decide +kernel
  have hq : eqD (.str t) (.str "-") = some (.bl (decide (t = "-"))) := by
    unfold eqD
    rw [if_pos ⟨so, so2⟩, eqv_str]
  have er : rho0 6 [S.d (.str t)] = [some (.d (.str t)), none, none, none, none, none] := rfl
  unfold f_read_script readR
  by_cases c : t = "-"
  · rw [if_pos c]
    rw [decide_eq_true c] at hq
    refine .inl (fnD_o ?_ rfl)
    rw [er]
    exact rd_dash hq
  · rw [if_neg c]
    rw [decide_eq_false c] at hq
    have sl := split_len t
    have st := fun (r : SO) h3 => rd_start (lb := lb1_read_script) (R0 := sRaiseF "InvalidText" "word" (eC (.int 0))) (R1 := sRaiseF "InvalidText" "word" (eOp addD (eC (.int 8)) (eC (.int 1)))) (T := gT 2 (gsC (gN 4) (gsC (gN 5) gsN))) (r := r) hq (known_lc (μ := μ)) dict_known (enm_ok (by omega)) h3
    rcases rd_loop (v := .str t) (r3 := none) (μ := μ) (Txt.split t " ") 0 [] (a4 := none) (a5 := none) (by omega) (by simp only [List.length_nil]; omega) with ⟨w, ρ', cc, q1, q2⟩ | ⟨l, a4, a5, q1, q2, q3⟩
    · rw [q1]
      refine .inr ⟨w, rfl, fnD_px (c := cc) (ρ := ρ') ?_⟩
      rw [er]
      refine (st _ q2).trans ?_
      exact seqO_exc _ _ _ _
    · rw [q1]
      have b : d_read_script (rho0 6 [S.d (.str t)]) μ = _ := (st _ q3).trans ((seqO_nx _ _ _).trans (rd_end (l := l.map encF) fun _ => rz_9))
      rw [List.length_map] at b
      by_cases d : l.length ≤ 8
      · rw [if_pos d] at b
        dsimp only
        rw [if_pos d]
        exact .inl (fnD_p b)
      · rw [if_neg d] at b
        dsimp only
        rw [if_neg d]
        exact .inr ⟨9, rfl, fnD_px b⟩
theorem read_no {v : D} {μ : Mu} (h : isiD [v, .ty "str"] = some (.bl false)) : f_read_script [.d v] μ = .exc ⟨"InvalidText", [("word", .int 0)]⟩ μ := by
  unfold f_read_script
  refine fnD_exc (ρ := [some (.d v), none, none, none, none, none]) ?_ rfl
  rw [show rho0 6 [S.d v] = [some (.d v), none, none, none, none, none] from rfl]
  exact rd_no (r := .stk) h rz_0
theorem try_ok {x f : Str} {i : Nat} {fb : FE} {ρ : Rho} {μ μ' : Mu} {s : S} (h : fb ρ μ = .ok s μ') : sTryF x f i fb ρ μ = .rt s μ' := by
  unfold sTryF
  rw [h]
theorem try_exc {x f : Str} {i : Nat} {fb : FE} {ρ : Rho} {μ μ' : Mu} {d : D} (h : fb ρ μ = .exc ⟨x, [(f, d)]⟩ μ') (hi : i < ρ.length) : sTryF x f i fb ρ μ = .rt (.d d) μ' := by
  unfold sTryF
  rw [h]
  simp [hi, List.lookup]
theorem lread_str {t : Str} {μ : Mu} (hk : PyData.strOk t = true) (hl : t.length ≤ 500) : f__law_read [.d (.str t)] μ = .ok (.d (readR t)) μ := by
  have er : rho0 2 [S.d (.str t)] = [some (.d (.str t)), none] := rfl
  unfold f__law_read
  refine fnD_o ?_ rfl
  rw [er]
  unfold d__law_read
  rcases read_str (μ := μ) hk hl with h | ⟨i, h1, h2⟩
  · generalize f_read_script = G at *
    exact try_ok (by simp only [eCall_1, eV_0, bnd1_ok, h])
  · rw [h1]
    generalize f_read_script = G at *
    exact try_exc (by simp only [eCall_1, eV_0, bnd1_ok, h2]) (by show (1 : Nat) < 2; decide)
theorem lread_no {v : D} {μ : Mu} (h : isiD [v, .ty "str"] = some (.bl false)) : f__law_read [.d v] μ = .ok (.d (.int 0)) μ := by
  have h2 := read_no (μ := μ) h
  unfold f__law_read
  refine fnD_o ?_ rfl
  rw [show rho0 2 [S.d v] = [some (.d v), none] from rfl]
  unfold d__law_read
  generalize f_read_script = G at *
  exact try_exc (by simp only [eCall_1, eV_0, bnd1_ok, h2]) (by show (1 : Nat) < 2; decide)
end Law

set_option maxHeartbeats 2000000
namespace Law
open PySem PySem.Spec PyProof.Rows L2 GF
/-! ### texts whose signs are low -/
structure okT (n : Nat) (t : Str) : Prop where
  lo : ∀ c ∈ TL.tl t, c < 256
  len : t.length ≤ n
theorem strOk_of {t : Str} (h : ∀ c ∈ TL.tl t, c < 256) : PyData.strOk t = true := by
  unfold PyData.strOk
  rw [← Array.all_toList, List.all_eq_true]
  intro c hc
  have := h c hc
  exact decide_eq_true (by omega)
theorem okT.ok {n : Nat} {t : Str} (h : okT n t) : PyData.strOk t = true := strOk_of h.lo
theorem spl_mem : ∀ (l acc : List Nat) (p : List Nat), p ∈ TL.spl [32] 0 acc l → ∀ c ∈ p, c ∈ acc ∨ c ∈ l
  | [], acc, p, h, c, hc => by
    rw [TL.spl_nil] at h
    rw [List.mem_singleton.mp h] at hc
    exact .inl hc
  | x :: r, acc, p, h, c, hc => by
    cases e : TL.pre [32] (x :: r) with
    | true =>
      rw [TL.spl_hit e] at h
      rcases List.mem_cons.mp h with z | z
      · rw [z] at hc; exact .inl hc
      · rcases spl_mem r [] p z c hc with w | w
        · cases w
        · exact .inr (List.mem_cons_of_mem _ w)
    | false =>
      rw [TL.spl_miss e] at h
      rcases spl_mem r (acc ++ [x]) p h c hc with w | w
      · rcases List.mem_append.mp w with w | w
        · exact .inl w
        · rw [List.mem_singleton.mp w]; exact .inr List.mem_cons_self
      · exact .inr (List.mem_cons_of_mem _ w)
theorem split_lo {t w : Str} (h : ∀ c ∈ TL.tl t, c < 256) (hw : w ∈ Txt.split t " ") : ∀ c ∈ TL.tl w, c < 256 := by
  intro c hc
  have hm : TL.tl w ∈ TL.spl [32] 0 [] (TL.tl t) := by
    rw [← split_tl]
    exact List.mem_map_of_mem hw
  rcases spl_mem _ _ _ hm c hc with z | z
  · cases z
  · exact h c z
theorem eq_str {a b : Str} (ha : PyData.strOk a = true) (hb : PyData.strOk b = true) : eqD (.str a) (.str b) = some (.bl (decide (a = b))) := by
  unfold eqD
  rw [if_pos ⟨shaped_of (k := 0) (d := .str a) (by rw [dat]; exact ha) (by decide), shaped_of (k := 0) (d := .str b) (by rw [dat]; exact hb) (by decide)⟩, eqv_str]
theorem lst_dat (L : List Fl) : dat 2 (.lst (L.map encF)) = true := by
  rw [dat, datA_all]
  intro x hx
  obtain ⟨f, _, rfl⟩ := List.mem_map.mp hx
  obtain ⟨b, i⟩ := f
  cases b <;> simp [encF, dat, datA] <;> decide +kernel
theorem eq_nil (L : List Fl) : eqD (.lst (L.map encF)) (.lst []) = some (.bl L.isEmpty) := by
  unfold eqD
  rw [if_pos ⟨shaped_of (lst_dat L) (by decide), shaped_of (lst_dat []) (by decide)⟩]
  cases L with
  | nil => rfl
  | cons f L => simp [eqvD, toPy, toPyA, PyData.eqv, PyData.eqvAll]
theorem wd_lo {f : Fl} (h : f ∈ every) : ∀ c ∈ TL.tl (wd f), c < 256 ∧ c ≠ 32 := fun c hc => by
  have := List.all_eq_true.mp (wd_tl f h).1 c hc
  rw [Bool.and_eq_true, decide_eq_true_eq, decide_eq_true_eq] at this
  exact this
theorem lcD_filt {α : Type} {ft : FB} {fe : FE} {ρ : Rho} {i : Nat} {μ : Mu} (e : α → D) (p : α → Bool) : ∀ (l : List α), (∀ x ∈ l, ft (ρ.set i (some (.d (e x)))) μ = .ok (p x) μ) → (∀ x ∈ l, fe (ρ.set i (some (.d (e x)))) μ = .ok (.d (e x)) μ) → lcD (gN i) ft fe ρ (l.map e) μ = .ok ((l.filter p).map e) μ
  | [], _, _ => lcD_nil
  | x :: l, h, h' => by
    have ih := lcD_filt (ft := ft) (fe := fe) (ρ := ρ) (i := i) (μ := μ) e p l (fun y hy => h y (List.mem_cons_of_mem _ hy)) (fun y hy => h' y (List.mem_cons_of_mem _ hy))
    have h1 := h x List.mem_cons_self
    have h2 := h' x List.mem_cons_self
    rw [List.map_cons]
    unfold lcD
    have hg : gN i (e x) ρ = some (ρ.set i (some (.d (e x)))) := rfl
    rw [hg]
    dsimp only
    rw [h1]
    cases c : p x with
    | true =>
      dsimp only
      rw [h2]
      dsimp only
      rw [ih, List.filter_cons_of_pos c]
      rfl
    | false =>
      dsimp only
      rw [ih, List.filter_cons_of_neg (by rw [c]; exact Bool.false_ne_true)]
/-! ### what is due -/
theorem due_some {r0 r2 r3 r4 r6 r7 : Option S} {w : Str} {μ : Mu} (hw : PyData.strOk w = true) : eLc (iSeq (eV 1)) (gN 7) (bT (eOp eqD (eCall 1 f__law_word_of (aCons (eV 7) aNil)) (eV 5))) (eV 7) [7] [r0, some (.d (.lst (every.map encF))), r2, r3, r4, some (.d (.str w)), r6, r7] μ = .ok (.d (.lst ((every.filter fun f => decide (wd f = w)).map encF))) μ := by
  have h2 := lcD_filt (ft := bT (eOp eqD (eCall 1 f__law_word_of (aCons (eV 7) aNil)) (eV 5))) (fe := eV 7) (ρ := [r0, some (.d (.lst (every.map encF))), r2, r3, r4, some (.d (.str w)), r6, none]) (i := 7) (μ := μ) encF (fun f => decide (wd f = w)) every (fun f hf => by
    have e := word_of_ok (μ := μ) hf
    have q := eq_str (a := wd f) (b := w) (strOk_of fun c hc => (wd_lo hf c hc).1) hw
    generalize f__law_word_of = G at *
    simp only [List.set, bT_o, eOp, eCall_1, eV_0, eV_s, bnd1_ok, e, op2_d, q, asB_o]) (fun f hf => by
    simp only [List.set, eV_0, eV_s])
  have hi : iSeq (eV 1) [r0, some (.d (.lst (every.map encF))), r2, r3, r4, some (.d (.str w)), r6, r7] μ = .ok (every.map encF) μ := by simp only [iSeq, eV_0, eV_s, bnd1_ok, seqOf_l]
  have hc : (every.map encF).length ≤ cap := by rw [List.length_map]; decide
  unfold eLc
  rw [hi, bnd1_ok, if_pos hc, show wipeR [r0, some (.d (.lst (every.map encF))), r2, r3, r4, some (.d (.str w)), r6, r7] [7] = [r0, some (.d (.lst (every.map encF))), r2, r3, r4, some (.d (.str w)), r6, none] from rfl, h2, bnd1_ok]
  rfl
theorem due_turn {v : D} {r2 r6 r7 : Option S} {i : Nat} {w : Str} {μ : Mu} {acc : List Fl} (hw : PyData.strOk w = true) (ha : acc.length ≤ 1000) :
    ∃ s, lb1__law_due [some (.d v), some (.d (.lst (every.map encF))), r2, some (.c μ.length), some (.d (.int i)), some (.d (.str w)), r6, r7] (μ ++ [.lst (acc.map encF)]) = (fnd w).elim (.rt (.d (.int ((i : Int) + 1))) (μ ++ [.lst (acc.map encF)])) (fun f =>
      .nx [some (.d v), some (.d (.lst (every.map encF))), r2, some (.c μ.length), some (.d (.int i)), some (.d (.str w)), some (.d s), r7] (μ ++ [.lst ((acc ++ [f]).map encF)])) := by
  refine ⟨.lst ((every.filter fun f => decide (wd f = w)).map encF), ?_⟩
  have e1 := due_some (r0 := some (.d v)) (r2 := r2) (r3 := some (.c μ.length)) (r4 := some (.d (.int i))) (r6 := r6) (r7 := r7) (μ := μ ++ [.lst (acc.map encF)]) hw
  have hh : (every.filter fun f => decide (wd f = w)).head? = fnd w := List.head?_filter
  have eq := eq_nil (every.filter fun f => decide (wd f = w))
  have ad : addD (.int i) (.int 1) = some (.int ((i : Int) + 1)) := rfl
  have l0 : ∀ μ, mkLst [] μ = .ok (.d (.lst [])) μ := fun μ => mkLst_n μ rfl (by decide)
  unfold lb1__law_due
  generalize eLc (iSeq (eV 1)) (gN 7) (bT (eOp eqD (eCall 1 f__law_word_of (aCons (eV 7) aNil)) (eV 5))) (eV 7) [7] = F at *
  generalize (every.filter fun f => decide (wd f = w)) = L at *
  generalize every.map encF = EV at *
  cases L with
  | nil =>
    rw [← hh]
    have eq : eqD (.lst (List.map encF [])) (.lst []) = some (.bl true) := eq
    simp only [sSeq_o, sSet, e1, toS_ok, List.set, seqO_nx, sIf_o, bT_o, eOp, eV_0, eV_s, bnd1_ok, eLst, aNil, l0, op2_d, eq, asB_o, toSB_ok, if_tt, if_true, sRet, eC, ad, seqO_rt, List.head?, Option.elim]
  | cons f L =>
    rw [← hh]
    have eq : eqD (.lst (List.map encF (f :: L))) (.lst []) = some (.bl false) := eq
    have ix : ixD (.lst (List.map encF (f :: L))) (.int 0) = some (encF f) := by
      rw [List.map_cons]
      show atI (encF f :: L.map encF) 0 = _
      exact atI_zero _ _
    have e3 : eOp ixD (eV 6) (eC (.int 0)) [some (.d v), some (.d (.lst EV)), r2, some (.c μ.length), some (.d (.int i)), some (.d (.str w)), some (.d (.lst (List.map encF (f :: L)))), r7] (μ ++ [.lst (acc.map encF)]) = .ok (.d (encF f)) (μ ++ [.lst (acc.map encF)]) := by
      simp only [eOp, eV_0, eV_s, eC, bnd1_ok, op2_d, ix]
    have ap := sApp_o (fx := eV 3) (fe := eOp ixD (eV 6) (eC (.int 0))) (ρ := [some (.d v), some (.d (.lst EV)), r2, some (.c μ.length), some (.d (.int i)), some (.d (.str w)), some (.d (.lst (List.map encF (f :: L)))), r7]) (by simp only [eV_0, eV_s]) (get_last μ (.lst (acc.map encF))) e3 (by rw [List.length_map]; unfold cap; omega)
    rw [set_last] at ap
    generalize sApp (eV 3) (eOp ixD (eV 6) (eC (.int 0))) = G at *
    simp only [sSeq_o, sSet, e1, toS_ok, List.set, seqO_nx, sIf_o, bT_o, eOp, eV_0, eV_s, bnd1_ok, eLst, aNil, l0, op2_d, eq, asB_o, toSB_ok, if_ff, sNil, ap, List.head?, Option.elim]
    rw [List.map_append]
    rfl
theorem gT45b {v : D} {r1 r2 r3 r4 r5 r6 r7 : Option S} {a b : D} : gT 2 (gsC (gN 4) (gsC (gN 5) gsN)) (.tup [a, b]) [some (.d v), r1, r2, r3, r4, r5, r6, r7] = some [some (.d v), r1, r2, r3, some (.d a), some (.d b), r6, r7] := rfl
theorem due_loop {v : D} {r2 r7 : Option S} {μ : Mu} : ∀ (ws : List Str) (i : Nat) (acc : List Fl) {a4 a5 a6 : Option S}, (∀ w ∈ ws, PyData.strOk w = true) → acc.length + ws.length ≤ 1000 →
    (∃ w c, parseK ws i acc = .inl w ∧ forD (gT 2 (gsC (gN 4) (gsC (gN 5) gsN))) lb1__law_due (enumD i (ws.map .str)) [some (.d v), some (.d (.lst (every.map encF))), r2, some (.c μ.length), a4, a5, a6, r7] (μ ++ [.lst (acc.map encF)]) = .rt (.d (.int (w : Nat))) (μ ++ [c])) ∨
    ∃ l a4' a5' a6', parseK ws i acc = .inr l ∧ forD (gT 2 (gsC (gN 4) (gsC (gN 5) gsN))) lb1__law_due (enumD i (ws.map .str)) [some (.d v), some (.d (.lst (every.map encF))), r2, some (.c μ.length), a4, a5, a6, r7] (μ ++ [.lst (acc.map encF)]) = .nx [some (.d v), some (.d (.lst (every.map encF))), r2, some (.c μ.length), a4', a5', a6', r7] (μ ++ [.lst (l.map encF)])
  | [], i, acc, a4, a5, a6, _, _ => .inr ⟨acc, a4, a5, a6, rfl, forD_nil _ _ _ _⟩
  | w :: ws, i, acc, a4, a5, a6, h1, h2 => by
    rw [List.length_cons] at h2
    obtain ⟨s, b⟩ := due_turn (v := v) (r2 := r2) (r6 := a6) (r7 := r7) (i := i) (w := w) (μ := μ) (acc := acc) (h1 w List.mem_cons_self) (by omega)
    rw [List.map_cons]
    unfold enumD parseK
    cases e : fnd w with
    | none =>
      rw [e] at b
      exact .inl ⟨i + 1, _, rfl, forD_rt gT45b b⟩
    | some f =>
      rw [e] at b
      have la : (acc ++ [f]).length = acc.length + 1 := by rw [List.length_append]; rfl
      rcases due_loop (v := v) (r2 := r2) (r7 := r7) (μ := μ) ws (i + 1) (acc ++ [f]) (a4 := some (.d (.int i))) (a5 := some (.d (.str w))) (a6 := some (.d s)) (fun x hx => h1 x (List.mem_cons_of_mem _ hx)) (by omega) with ⟨w', c, q1, q2⟩ | ⟨l, a4', a5', a6', q1, q3⟩
      · exact .inl ⟨w', c, q1, (forD_nx gT45b b).trans q2⟩
      · exact .inr ⟨l, a4', a5', a6', q1, (forD_nx gT45b b).trans q3⟩
theorem every_list {r0 r1 r2 r3 r4 r5 r6 r7 : Option S} {μ : Mu} : eOp addD (eLc (iRange1 (aCons (eC (.int 7)) aNil)) (gN 2) bYes (eTup (aCons (eC (.str "but")) (aCons (eV 2) aNil))) [2]) (eLc (iRange2 (aCons (eC (.int 1)) (aCons (eC (.int 7)) aNil))) (gN 2) bYes (eTup (aCons (eC (.str "top")) (aCons (eV 2) aNil))) [2]) [r0, r1, r2, r3, r4, r5, r6, r7] μ = .ok (.d (.lst (every.map encF))) μ := by kernel_rfl
section
variable {lb : FS} {F1 : FE} {F2 : FI} {T : D → Rho → Option Rho} {t : Str} {v kk : D} {ws : List D} {μ : Mu}
abbrev dueB (lb : FS) (F1 : FE) (F2 : FI) (T : D → Rho → Option Rho) : FS :=
  sSeq (sIf (bNot (bT (eBi isiD (aCons (eV 0) (aCons (eC (.ty "str")) aNil))))) (sRet (eC (.int 0))) sNil)
      (sSeq (sIf (bT (eOp eqD (eV 0) (eC (.str "-")))) (sRet (eTup aNil)) sNil)
      (sSeq (sSet 1 F1)
      (sSeq (sSet 3 (eCell aNil))
      (sSeq (sFor F2 T lb)
      (sRet (eIf (bT (eOp ltD (eBi lenD (aCons (eV 3) aNil)) (eC (.int 9)))) (eBi tupleD (aCons (eV 3) aNil)) (eC (.int 9))))))))
theorem due_dash (hq : eqD (.str t) (.str "-") = some (.bl true)) : dueB lb F1 F2 T [some (.d (.str t)), none, none, none, none, none, none, none] μ = .rt (.d (.tup [])) μ := by
  have e := eBi_2 (g := isiD) (f := eV 0) (f2 := eC (.ty "str")) (ρ := [some (.d (.str t)), none, none, none, none, none, none, none]) (μ := μ) (by simp only [eV_0]) (by simp only [eC]) (isS t)
  unfold dueB
  generalize eBi isiD (aCons (eV 0) (aCons (eC (.ty "str")) aNil)) = B at *
  simp only [sSeq_o, sIf_o, bNot, bT_o, e, bnd1_ok, asB_o, Bool.not_true, toSB_ok, if_ff, sNil, seqO_nx, eOp, eV_0, eC, op2_d, hq, if_tt, if_true, sRet, eTup, aNil, mkTup_0, toS_ok, seqO_rt]
theorem due_start {r : SO} (hq : eqD (.str t) (.str "-") = some (.bl false)) (h1 : F1 [some (.d (.str t)), none, none, none, none, none, none, none] μ = .ok (.d kk) μ) (h2 : F2 [some (.d (.str t)), some (.d kk), none, some (.c μ.length), none, none, none, none] (μ ++ [.lst []]) = .ok ws (μ ++ [.lst []]))
    (h3 : forD T lb ws [some (.d (.str t)), some (.d kk), none, some (.c μ.length), none, none, none, none] (μ ++ [.lst []]) = r) : dueB lb F1 F2 T [some (.d (.str t)), none, none, none, none, none, none, none] μ = seqO r (sRet (eIf (bT (eOp ltD (eBi lenD (aCons (eV 3) aNil)) (eC (.int 9)))) (eBi tupleD (aCons (eV 3) aNil)) (eC (.int 9)))) := by
  have e := eBi_2 (g := isiD) (f := eV 0) (f2 := eC (.ty "str")) (ρ := [some (.d (.str t)), none, none, none, none, none, none, none]) (μ := μ) (by simp only [eV_0]) (by simp only [eC]) (isS t)
  unfold dueB
  generalize eBi isiD (aCons (eV 0) (aCons (eC (.ty "str")) aNil)) = B at *
  generalize sRet (eIf (bT (eOp ltD (eBi lenD (aCons (eV 3) aNil)) (eC (.int 9)))) (eBi tupleD (aCons (eV 3) aNil)) (eC (.int 9))) = Z at *
  simp only [sSeq_o, sIf_o, bNot, bT_o, e, bnd1_ok, asB_o, Bool.not_true, toSB_ok, if_ff, sNil, seqO_nx, eOp, eV_0, eC, op2_d, hq, sSet, h1, toS_ok, List.set, eCell, aNil, mkCell_0, sFor, h2, toSI_ok, h3]
theorem lt_i (i j : Int) : ltD (.int i) (.int j) = some (.bl (decide (i < j))) := rfl
theorem due_end {r1 r2 r4 r5 r6 r7 : Option S} {l : List D} : sRet (eIf (bT (eOp ltD (eBi lenD (aCons (eV 3) aNil)) (eC (.int 9)))) (eBi tupleD (aCons (eV 3) aNil)) (eC (.int 9))) [some (.d v), r1, r2, some (.c μ.length), r4, r5, r6, r7] (μ ++ [.lst l]) = .rt (.d (if l.length ≤ 8 then .tup l else .int 9)) (μ ++ [.lst l]) := by
  have e1 := eBi_c (g := lenD) (f := eV 3) (ρ := [some (.d v), r1, r2, some (.c μ.length), r4, r5, r6, r7]) (by simp only [eV_0, eV_s]) (get_last μ (.lst l)) (z := .int l.length) rfl
  have e2 := eBi_c (g := tupleD) (f := eV 3) (ρ := [some (.d v), r1, r2, some (.c μ.length), r4, r5, r6, r7]) (by simp only [eV_0, eV_s]) (get_last μ (.lst l)) (z := .tup l) rfl
  generalize eBi lenD (aCons (eV 3) aNil) = B at *
  generalize eBi tupleD (aCons (eV 3) aNil) = B2 at *
  by_cases c : l.length ≤ 8
  · have d : decide ((l.length : Int) < 9) = true := decide_eq_true (by omega)
    rw [if_pos c]
    simp only [sRet, eIf, bT_o, eOp, e1, bnd1_ok, eC, op2_d, lt_i, d, asB_o, if_tt, if_true, e2, toS_ok]
  · have d : decide ((l.length : Int) < 9) = false := decide_eq_false (by omega)
    rw [if_neg c]
    simp only [sRet, eIf, bT_o, eOp, e1, bnd1_ok, eC, op2_d, lt_i, d, asB_o, if_ff, e2, toS_ok]
end
theorem due_ok {t : Str} {μ : Mu} (h : okT 500 t) : f__law_due [.d (.str t)] μ = .ok (.d (readR t)) μ := by
  have hl := h.len
  have hq := eq_str (a := t) (b := "-") h.ok (by decide +kernel)
  have er : rho0 8 [S.d (.str t)] = [some (.d (.str t)), none, none, none, none, none, none, none] := rfl
  unfold f__law_due readR
  by_cases c : t = "-"
  · rw [if_pos c]
    rw [decide_eq_true c] at hq
    refine fnD_o ?_ rfl
    rw [er]
    exact due_dash hq
  · rw [if_neg c]
    rw [decide_eq_false c] at hq
    have sl := split_len t
    have st := fun (r : SO) h3 => due_start (lb := lb1__law_due) (T := gT 2 (gsC (gN 4) (gsC (gN 5) gsN))) (r := r) hq (every_list (μ := μ)) (enm_ok (by omega)) h3
    rcases due_loop (v := .str t) (r2 := none) (r7 := none) (μ := μ) (Txt.split t " ") 0 [] (a4 := none) (a5 := none) (a6 := none) (fun w hw => strOk_of (split_lo h.lo hw)) (by simp only [List.length_nil]; omega) with ⟨w, cc, q1, q2⟩ | ⟨l, a4, a5, a6, q1, q3⟩
    · rw [q1]
      refine fnD_p (c := cc) ?_
      rw [er]
      refine (st _ q2).trans ?_
      exact seqO_rt _ _ _
    · rw [q1]
      have b : d__law_due (rho0 8 [S.d (.str t)]) μ = _ := (st _ q3).trans ((seqO_nx _ _ _).trans (due_end (l := l.map encF)))
      rw [List.length_map] at b
      exact fnD_p b
end Law

set_option maxHeartbeats 2000000
namespace Law
open PySem PySem.Spec PyProof.Rows L2 GF
/-! ### joined texts -/
theorem sizeW_app (a b : List (List Nat)) : sizeW (a ++ b) = sizeW a + sizeW b := by
  unfold sizeW
  rw [List.map_append, List.sum_append, List.length_append]
  omega
theorem sizeW_take (a : List (List Nat)) (k : Nat) : sizeW (a.take k) ≤ sizeW a := by
  have := sizeW_app (a.take k) (a.drop k)
  rw [List.take_append_drop] at this
  omega
theorem sizeW_drop (a : List (List Nat)) (k : Nat) : sizeW (a.drop k) ≤ sizeW a := by
  have := sizeW_app (a.take k) (a.drop k)
  rw [List.take_append_drop] at this
  omega
theorem joinL_len : ∀ ps : List (List Nat), (TL.joinL [32] ps).length ≤ sizeW ps
  | [] => by simp [TL.joinL, sizeW]
  | [p] => by simp [TL.joinL, sizeW]
  | p :: q :: r => by
    have ih := joinL_len (q :: r)
    show (p ++ ([32] ++ TL.joinL [32] (q :: r))).length ≤ _
    rw [List.length_append, List.length_append, List.length_cons, List.length_nil]
    have e : sizeW (p :: q :: r) = p.length + 1 + sizeW (q :: r) := by
      unfold sizeW
      rw [List.map_cons, List.sum_cons, List.length_cons]
      omega
    omega
theorem joinL_mem : ∀ (ps : List (List Nat)) (c : Nat), c ∈ TL.joinL [32] ps → c = 32 ∨ ∃ p ∈ ps, c ∈ p
  | [], c, h => by simp [TL.joinL] at h
  | [p], c, h => .inr ⟨p, List.mem_cons_self, h⟩
  | p :: q :: r, c, h => by
    have h : c ∈ p ++ ([32] ++ TL.joinL [32] (q :: r)) := h
    rcases List.mem_append.mp h with z | z
    · exact .inr ⟨p, List.mem_cons_self, z⟩
    · rcases List.mem_append.mp z with w | w
      · exact .inl (List.mem_singleton.mp w)
      · rcases joinL_mem (q :: r) c w with u | ⟨x, hx, hc⟩
        · exact .inl u
        · exact .inr ⟨x, List.mem_cons_of_mem _ hx, hc⟩
theorem join_tl (ws : List Str) : TL.tl (Txt.join " " ws) = TL.joinL [32] (ws.map TL.tl) := by
  rw [TL.join_eq, TL.tl_join, tl_sp]
theorem okT_join {n : Nat} {ws : List Str} (h : ∀ w ∈ ws, ∀ c ∈ TL.tl w, c < 256) (hs : sizeW (ws.map TL.tl) ≤ n) : okT n (Txt.join " " ws) := by
  refine ⟨fun c hc => ?_, ?_⟩
  · rw [join_tl] at hc
    rcases joinL_mem _ _ hc with z | ⟨p, hp, hc⟩
    · omega
    · obtain ⟨w, hw, rfl⟩ := List.mem_map.mp hp
      exact h w hw c hc
  · rw [TL.len_tl, join_tl]
    exact Nat.le_trans (joinL_len _) hs
theorem strsD_map : ∀ ws : List Str, strsD (ws.map .str) = some ws
  | [] => rfl
  | w :: ws => by
    rw [List.map_cons]
    unfold strsD
    rw [strsD_map ws]
    rfl
theorem sum_len (ws : List Str) : (ws.map (·.length)).sum + ws.length = sizeW (ws.map TL.tl) := by
  unfold sizeW
  rw [List.length_map, List.map_map]
  have e : ((fun x : List Nat => x.length) ∘ TL.tl) = fun x : Str => x.length := by
    funext x
    exact (TL.len_tl x).symm
  rw [show List.length ∘ TL.tl = fun x : Str => x.length from e]
theorem joinD_ok {ws : List Str} (h : sizeW (ws.map TL.tl) ≤ 10000) : joinD " " (.lst (ws.map .str)) = some (.str (Txt.join " " ws)) := by
  have e := sum_len ws
  have l1 : (" " : Str).length = 1 := by decide +kernel
  unfold joinD
  dsimp only
  unfold joinS
  rw [strsD_map]
  dsimp only
  rw [l1, if_pos (by omega)]
/-! ### a script as text -/
def txt (s : List Fl) : Str := if s = [] then "-" else Txt.join " " (s.map wd)
theorem wd_size {s : List Fl} (h : ∀ f ∈ s, f ∈ every) : sizeW ((s.map wd).map TL.tl) = 5 * s.length := by
  induction s with
  | nil => rfl
  | cons f s ih =>
    have := ih fun g hg => h g (List.mem_cons_of_mem _ hg)
    have l := (wd_tl f (h f List.mem_cons_self)).2
    rw [TL.len_tl] at l
    unfold sizeW at *
    rw [List.map_cons, List.map_cons, List.map_cons, List.sum_cons, List.length_cons, List.length_cons, l]
    omega
theorem ne_tup (s : List Fl) : neD (encS s) (.tup []) = some (.bl (!s.isEmpty)) := by
  unfold neD
  rw [if_pos ⟨shaped_of (encS_dat s) (by decide), shaped_of (encS_dat []) (by decide)⟩]
  cases s with
  | nil => rfl
  | cons f s => simp [encS, eqvD, toPy, toPyA, PyData.eqv, PyData.eqvAll]
theorem text_g {G : List S → Mu → Out S} {s : List Fl} {μ : Mu} (hG : ∀ f ∈ s, G [.d (encF f)] μ = .ok (.d (.str (wd f))) μ) (hs : ∀ f ∈ s, f ∈ every) (hl : s.length ≤ 8) :
    sRet (eIf (bT (eOp neD (eV 0) (eTup aNil))) (eMt joinD (eC (.str " ")) (eLc (iSeq (eV 0)) (gN 1) bYes (eCall 1 G (aCons (eV 1) aNil)) [1])) (eC (.str "-"))) [some (.d (encS s)), none] μ = .rt (.d (.str (txt s))) μ := by
  have h2 := lcD_map (fe := eCall 1 G (aCons (eV 1) aNil)) (ρ := [some (.d (encS s)), none]) (i := 1) (μ := μ) encF (fun f => .str (wd f)) s (fun f hf => by
    simp only [List.set, eCall_1, eV_0, eV_s, bnd1_ok, hG f hf])
  have hi : iSeq (eV 0) [some (.d (encS s)), none] μ = .ok (s.map encF) μ := by simp only [iSeq, eV_0, bnd1_ok, encS, seqOf_t]
  have hc : (s.map encF).length ≤ cap := by rw [List.length_map]; unfold cap; omega
  have e1 : eLc (iSeq (eV 0)) (gN 1) bYes (eCall 1 G (aCons (eV 1) aNil)) [1] [some (.d (encS s)), none] μ = .ok (.d (.lst ((s.map wd).map .str))) μ := by
    unfold eLc
    rw [hi, bnd1_ok, if_pos hc, show wipeR [some (.d (encS s)), none] [1] = [some (.d (encS s)), none] from rfl, h2, bnd1_ok, List.map_map]
    rfl
  have e2 := joinD_ok (ws := s.map wd) (by rw [wd_size hs]; omega)
  have e3 := ne_tup s
  generalize eLc (iSeq (eV 0)) (gN 1) bYes (eCall 1 G (aCons (eV 1) aNil)) [1] = F at *
  unfold txt
  cases s with
  | nil =>
    have e3 : neD (encS []) (.tup []) = some (.bl false) := e3
    rw [if_pos rfl]
    simp only [sRet, eIf, bT_o, eOp, eV_0, eTup, aNil, bnd1_ok, mkTup_0, op2_d, e3, asB_o, if_ff, eC, toS_ok]
  | cons f s =>
    have e3 : neD (encS (f :: s)) (.tup []) = some (.bl true) := e3
    rw [if_neg (by simp)]
    simp only [sRet, eIf, bT_o, eOp, eV_0, eTup, aNil, bnd1_ok, mkTup_0, op2_d, e3, asB_o, if_tt, if_true, eMt, eC, e1, opM, view, e2, toS_ok]
theorem ltext_ok {s : List Fl} {μ : Mu} (hs : ∀ f ∈ s, f ∈ every) (hl : s.length ≤ 8) : f__law_text [.d (encS s)] μ = .ok (.d (.str (txt s))) μ := by
  unfold f__law_text
  refine fnD_o ?_ rfl
  rw [show rho0 2 [S.d (encS s)] = [some (.d (encS s)), none] from rfl]
  unfold d__law_text
  exact text_g (fun f hf => word_of_ok (hs f hf)) hs hl
theorem text_ok {s : List Fl} {μ : Mu} (hs : ∀ f ∈ s, f ∈ every) (hl : s.length ≤ 8) : f_text_of [.d (encS s)] μ = .ok (.d (.str (txt s))) μ := by
  unfold f_text_of
  refine fnD_o ?_ rfl
  rw [show rho0 2 [S.d (encS s)] = [some (.d (encS s)), none] from rfl]
  unfold d_text_of
  exact text_g (fun f hf => flip_text_ok (hs f hf)) hs hl
theorem st_body {ns to : List S → Mu → Out S} {a z : D} {μ : Mu} (h1 : ns [.d a] μ = .ok (.d .non) μ) (h2 : to [.d a] μ = .ok (.d z) μ) : (sSeq (sExpr (eCall 1 ns (aCons (eV 0) aNil))) (sRet (eCall 1 to (aCons (eV 0) aNil)))) [some (.d a)] μ = .rt (.d z) μ := by
  simp only [sSeq_o, sExpr, eCall_1, eV_0, bnd1_ok, h1, toS_ok, seqO_nx, sRet, h2]
theorem st_bad {ns to : List S → Mu → Out S} {a : D} {x : Exn} {μ : Mu} (h1 : ns [.d a] μ = .exc x μ) : (sSeq (sExpr (eCall 1 ns (aCons (eV 0) aNil))) (sRet (eCall 1 to (aCons (eV 0) aNil)))) [some (.d a)] μ = .exc x [some (.d a)] μ := by
  simp only [sSeq_o, sExpr, eCall_1, eV_0, bnd1_ok, h1, toS_exc, seqO_exc]
theorem script_text_ok {s : List Fl} {μ : Mu} (ho : ∀ f ∈ s, okF f) (hl : s.length ≤ 8) : f_script_text [.d (encS s)] μ = .ok (.d (.str (txt s))) μ := by
  have n1 := need_script_ok (μ := μ) (encS_dat s) (by decide)
  rw [scriptB_enc ho hl, if_tt] at n1
  unfold f_script_text
  refine fnD_o ?_ rfl
  rw [show rho0 1 [S.d (encS s)] = [some (.d (encS s))] from rfl]
  unfold d_script_text
  rw [e_need]
  exact st_body n1 (text_ok (fun f hf => every_mem (ho f hf)) hl)
theorem script_text_bad {a : D} {μ : Mu} (h : dat 3 a = true) (hb : scriptB a = false) : f_script_text [.d a] μ = .exc ⟨"InvalidScript", []⟩ μ := by
  have n1 := need_script_ok (μ := μ) h (by decide)
  rw [hb, if_ff] at n1
  unfold f_script_text
  refine fnD_exc (ρ := [some (.d a)]) ?_ rfl
  rw [show rho0 1 [S.d a] = [some (.d a)] from rfl]
  unfold d_script_text
  rw [e_need]
  exact st_bad n1
theorem okT_txt {s : List Fl} (hs : ∀ f ∈ s, f ∈ every) (hl : s.length ≤ 8) : okT 40 (txt s) := by
  unfold txt
  by_cases c : s = []
  · rw [if_pos c]
    exact ⟨by decide +kernel, by decide +kernel⟩
  · rw [if_neg c]
    refine okT_join (fun w hw => ?_) (by rw [wd_size hs]; omega)
    obtain ⟨f, hf, rfl⟩ := List.mem_map.mp hw
    exact fun c hc => (wd_lo (hs f hf) c hc).1
theorem parse_wd : ∀ (s : List Fl) (i : Nat) (acc : List Fl), (∀ f ∈ s, f ∈ every) → parseK (s.map wd) i acc = .inr (acc ++ s)
  | [], i, acc, _ => by
    rw [List.map_nil, List.append_nil]; rfl
  | f :: s, i, acc, h => by
    rw [List.map_cons]
    unfold parseK
    rw [fnd_wd f (h f List.mem_cons_self)]
    dsimp only
    rw [parse_wd s (i + 1) (acc ++ [f]) fun g hg => h g (List.mem_cons_of_mem _ hg), List.append_assoc]
    rfl
theorem read_txt {s : List Fl} (hs : ∀ f ∈ s, f ∈ every) (hl : s.length ≤ 8) : readR (txt s) = encS s := by
  cases s with
  | nil => rfl
  | cons f s =>
    have tx : txt (f :: s) = Txt.join " " ((f :: s).map wd) := if_neg (by simp)
    rw [tx]
    unfold readR
    have sp : Txt.split (Txt.join " " ((f :: s).map wd)) " " = (f :: s).map wd := TL.split_join tl_sp (by decide +kernel) (by simp) (fun p hp => by
      obtain ⟨g, hg, rfl⟩ := List.mem_map.mp hp
      exact fun z => (wd_lo (hs g hg) 32 z).2 rfl)
    have nd : ¬ Txt.join " " ((f :: s).map wd) = "-" := fun z => by
      rw [z] at sp
      have l := congrArg List.length sp
      have h0 := congrArg List.head? sp
      rw [List.map_cons] at h0
      have hd : (Txt.split "-" " ").head? = some "-" := by decide +kernel
      rw [hd] at h0
      have e : ("-" : Str) = wd f := Option.some.inj h0
      have lw := (wd_tl f (hs f List.mem_cons_self)).2
      rw [← e] at lw
      exact absurd lw (by decide +kernel)
    rw [if_neg nd, sp, parse_wd (f :: s) 0 [] hs]
    dsimp only
    rw [List.nil_append, if_pos hl]
end Law

set_option maxHeartbeats 2000000
namespace Law
open PySem PySem.Spec PyProof.Rows L2 GF
theorem eq_int (a b : Int) : eqD (.int a) (.int b) = some (.bl (decide (a = b))) := by
  unfold eqD
  rw [if_pos ⟨shaped_int a, shaped_int b⟩, eqv_int]
theorem okT_cut {n : Nat} {t : Str} (h : okT n t) (lo hi : Option Int) : okT n (L2.cutS t lo hi) := by
  have e : TL.tl (L2.cutS t lo hi) = ((TL.tl t).drop (HT.sIx t.length 0 lo)).take (HT.sIx t.length t.length hi - HT.sIx t.length 0 lo) := rfl
  refine ⟨fun c hc => ?_, ?_⟩
  · rw [e] at hc
    exact h.lo c (List.mem_of_mem_drop (List.mem_of_mem_take hc))
  · have l := h.len
    rw [TL.len_tl] at l ⊢
    rw [e, List.length_take, List.length_drop]
    omega
theorem okT_app {n m : Nat} {a b : Str} (ha : okT n a) (hb : okT m b) : okT (n + m) (a ++ b) := by
  refine ⟨fun c hc => ?_, ?_⟩
  · rw [TL.tl_append] at hc
    rcases List.mem_append.mp hc with z | z
    · exact ha.lo c z
    · exact hb.lo c z
  · rw [Str.length_append]
    have := ha.len
    have := hb.len
    omega
theorem sl_str {n : Nat} {t : Str} (h : okT n t) (hn : n ≤ 1000) (lo hi : Option Int) : slD (.str t) lo hi = some (.str (L2.cutS t lo hi)) := by
  have l := h.len
  have c : t.length ≤ cap := by unfold cap; omega
  show (if t.length ≤ cap then some (D.str (L2.cutS t lo hi)) else none) = _
  rw [if_pos c]
theorem add_str {n m : Nat} {a b : Str} (ha : okT n a) (hb : okT m b) (hn : n + m ≤ 1000) : addD (.str a) (.str b) = some (.str (a ++ b)) := by
  have := ha.len
  have := hb.len
  have c : a.length + b.length ≤ cap := by unfold cap; omega
  show (if a.length + b.length ≤ cap then some (D.str (a ++ b)) else none) = _
  rw [if_pos c]
theorem len_str {n : Nat} {t : Str} (h : okT n t) (hn : n ≤ 1000) : lenD [.str t] = some (.int t.length) := by
  have l := h.len
  have c : t.length ≤ cap := by unfold cap; omega
  show (if t.length ≤ cap then some (D.int t.length) else none) = _
  rw [if_pos c]
def L9 : List D := [.str " ", .str "0", .str "6", .str "7", .str "-", .str "t", .str "\n", .str "but", .str " top1"]
def L13 : List D := [.str "top1", .str "top0", .str "top7", .str "but0", .str "but6", .str "but7", .str "but00", .str "Top1", .str "-", .str "", .str "top", .str "1", .str "but-0"]
theorem strs_ok : ∀ d ∈ L9 ++ L13, ∃ w, d = .str w ∧ okT 5 w := by
  have key : ∀ d ∈ L9 ++ L13, (match d with
    | .str w => (TL.tl w).all (fun c => decide (c < 256)) && decide (w.length ≤ 5)
    | _ => false) = true := by decide +kernel
  intro d hd
  have := key d hd
  split at this
  · rename_i w
    rw [Bool.and_eq_true, decide_eq_true_eq, List.all_eq_true] at this
    exact ⟨w, rfl, fun c hc => of_decide_eq_true (this.1 c hc), this.2⟩
  · cases this
theorem mkL9 (μ : Mu) : eLst (aCons (eC (.str " ")) (aCons (eC (.str "0")) (aCons (eC (.str "6")) (aCons (eC (.str "7")) (aCons (eC (.str "-")) (aCons (eC (.str "t")) (aCons (eC (.str "\n")) (aCons (eC (.str "but")) (aCons (eC (.str " top1")) aNil))))))))) = fun _ μ => .ok (.d (.lst L9)) μ := by
  funext ρ μ
  kernel_rfl
theorem mkL13 (μ : Mu) : eLst (aCons (eC (.str "top1")) (aCons (eC (.str "top0")) (aCons (eC (.str "top7")) (aCons (eC (.str "but0")) (aCons (eC (.str "but6")) (aCons (eC (.str "but7")) (aCons (eC (.str "but00")) (aCons (eC (.str "Top1")) (aCons (eC (.str "-")) (aCons (eC (.str "")) (aCons (eC (.str "top")) (aCons (eC (.str "1")) (aCons (eC (.str "but-0")) aNil))))))))))))) = fun _ μ => .ok (.d (.lst L13)) μ := by
  funext ρ μ
  kernel_rfl
section
variable {p ch : List S → Mu → Out S} {A9 A13 : FE} {k : Nat} {t a b aw r w : Str} {at_ way : Int} {μ μ1 μ2 μ3 μ4 : Mu} {W X Y Z : D}
abbrev bentB (p ch : List S → Mu → Out S) (A9 A13 : FE) : FS :=
  (sSeq (sPar 2 3 (aCons (eCall 2 p (aCons (eV 0) (aCons (eOp addD (eBi lenD (aCons (eV 1) aNil)) (eC (.int 1))) aNil))) (aCons (eCall 2 p (aCons (eV 0) (aCons (eC (.int 4)) aNil))) aNil)))
      (sSeq (sIf (bT (eOp eqD (eV 3) (eC (.int 0))))
      (sSeq (sSet 4 (eCall 2 ch (aCons (eV 0) (aCons A9 aNil))))
      (sRet (eOp addD (eOp addD (eSl (eV 1) oNone (oSome (eV 2))) (eV 4)) (eSl (eV 1) (oSome (eV 2)) oNone))))
      sNil)
      (sSeq (sIf (bT (eOp eqD (eV 3) (eC (.int 1))))
      (sRet (eOp addD (eSl (eV 1) oNone (oSome (eV 2))) (eSl (eV 1) (oSome (eOp addD (eV 2) (eC (.int 1)))) oNone)))
      sNil)
      (sSeq (sSet 5 (eMt splitD (eV 1) (eC (.str " "))))
      (sSeq (sSet 6 (eCall 2 p (aCons (eV 0) (aCons (eBi lenD (aCons (eV 5) aNil)) aNil))))
      (sSeq (sSet 7 A13)
      (sRet (eMt joinD (eC (.str " ")) (eOp addD (eOp addD (eSl (eV 5) oNone (oSome (eV 6))) (eLst (aCons (eCall 2 ch (aCons (eV 0) (aCons (eV 7) aNil))) aNil))) (eSl (eV 5) (oSome (eOp addD (eV 6) (eBi intD (aCons (eOp eqD (eV 3) (eC (.int 2))) aNil)))) oNone))))))))))
theorem bent_0 (hl : lenD [.str t] = some (.int t.length)) (h1 : p [.c k, .d (.int ((t.length : Int) + 1))] μ = .ok (.d (.int at_)) μ1) (h2 : p [.c k, .d (.int 4)] μ1 = .ok (.d (.int 0)) μ2) (h9 : A9 = fun _ μ => .ok (.d (.lst L9)) μ) (h3 : ch [.c k, .d (.lst L9)] μ2 = .ok (.d (.str w)) μ3)
    (s1 : slD (.str t) none (some at_) = some (.str a)) (s2 : slD (.str t) (some at_) none = some (.str b)) (a1 : addD (.str a) (.str w) = some (.str aw)) (a2 : addD (.str aw) (.str b) = some (.str r)) :
    bentB p ch A9 A13 [some (.c k), some (.d (.str t)), none, none, none, none, none, none] μ = .rt (.d (.str r)) μ3 := by
  have e1 := eBi_1 (g := lenD) (f := eV 1) (ρ := [some (.c k), some (.d (.str t)), none, none, none, none, none, none]) (μ := μ) (by simp only [eV_0, eV_s]) hl
  have ad : addD (.int t.length) (.int 1) = some (.int ((t.length : Int) + 1)) := rfl
  have q := eq_int 0 0
  rw [decide_eq_true rfl] at q
  unfold bentB
  generalize eBi lenD (aCons (eV 1) aNil) = B at *
  subst h9
  simp only [sSeq_o, sPar, aCons, aNil, eCall_2, eV_0, eV_s, eC, eOp, bnd1_ok, e1, op2_d, ad, h1, h2, toSA_ok, List.set, seqO_nx, sIf_o, bT_o, q, asB_o, toSB_ok, if_tt, if_true, sSet, h3, toS_ok, sRet, eSl, oNone, oSome, asI, op3, view, s1, a1, s2, a2, seqO_rt]
theorem bent_1 (hl : lenD [.str t] = some (.int t.length)) (h1 : p [.c k, .d (.int ((t.length : Int) + 1))] μ = .ok (.d (.int at_)) μ1) (h2 : p [.c k, .d (.int 4)] μ1 = .ok (.d (.int 1)) μ2)
    (s1 : slD (.str t) none (some at_) = some (.str a)) (s2 : slD (.str t) (some (at_ + 1)) none = some (.str b)) (a1 : addD (.str a) (.str b) = some (.str r)) :
    bentB p ch A9 A13 [some (.c k), some (.d (.str t)), none, none, none, none, none, none] μ = .rt (.d (.str r)) μ2 := by
  have e1 := eBi_1 (g := lenD) (f := eV 1) (ρ := [some (.c k), some (.d (.str t)), none, none, none, none, none, none]) (μ := μ) (by simp only [eV_0, eV_s]) hl
  have ad : addD (.int t.length) (.int 1) = some (.int ((t.length : Int) + 1)) := rfl
  have ad2 : addD (.int at_) (.int 1) = some (.int (at_ + 1)) := rfl
  have q := eq_int 1 0
  rw [decide_eq_false (by decide)] at q
  have q1 := eq_int 1 1
  rw [decide_eq_true rfl] at q1
  unfold bentB
  generalize eBi lenD (aCons (eV 1) aNil) = B at *
  simp only [sSeq_o, sPar, aCons, aNil, eCall_2, eV_0, eV_s, eC, eOp, bnd1_ok, e1, op2_d, ad, ad2, h1, h2, toSA_ok, List.set, seqO_nx, sIf_o, bT_o, q, q1, asB_o, toSB_ok, if_tt, if_ff, if_true, sNil, sRet, toS_ok, eSl, oNone, oSome, asI, op3, view, s1, s2, a1, seqO_rt]
theorem bent_2 {ws A B : List D} {here z : Int} {ha hb : Bool} (hl : lenD [.str t] = some (.int t.length)) (h1 : p [.c k, .d (.int ((t.length : Int) + 1))] μ = .ok (.d (.int at_)) μ1) (h2 : p [.c k, .d (.int 4)] μ1 = .ok (.d (.int way)) μ2) (w0 : ¬ way = 0) (w1 : ¬ way = 1)
    (hs : splitD t (.str " ") = some (.lst ws)) (h3 : p [.c k, .d (.int ws.length)] μ2 = .ok (.d (.int here)) μ3) (h13 : A13 = fun _ μ => .ok (.d (.lst L13)) μ) (s1 : slD (.lst ws) none (some here) = some (.lst A)) (h4 : ch [.c k, .d (.lst L13)] μ3 = .ok (.d W) μ4) (a1 : addD (.lst A) (.lst [W]) = some Y)
    (hz : z = if decide (way = 2) = true then 1 else 0) (s2 : slD (.lst ws) (some (here + z)) none = some (.lst B)) (a2 : addD Y (.lst B) = some Z) (hj : joinD " " Z = some (.str r)) :
    bentB p ch A9 A13 [some (.c k), some (.d (.str t)), none, none, none, none, none, none] μ = .rt (.d (.str r)) μ4 := by
  have e1 := eBi_1 (g := lenD) (f := eV 1) (ρ := [some (.c k), some (.d (.str t)), none, none, none, none, none, none]) (μ := μ) (by simp only [eV_0, eV_s]) hl
  have ad : addD (.int t.length) (.int 1) = some (.int ((t.length : Int) + 1)) := rfl
  have ad2 : addD (.int here) (.int z) = some (.int (here + z)) := rfl
  have q := eq_int way 0
  rw [decide_eq_false w0] at q
  have q1 := eq_int way 1
  rw [decide_eq_false w1] at q1
  have q2 := eq_int way 2
  have l1 : ∀ μ, mkLst [.d W] μ = .ok (.d (.lst [W])) μ := fun μ => mkLst_n μ rfl (by show (1 : Nat) ≤ cap; decide)
  have e5 : ∀ r6 r7, eBi lenD (aCons (eV 5) aNil) [some (.c k), some (.d (.str t)), some (.d (.int at_)), some (.d (.int way)), none, some (.d (.lst ws)), r6, r7] μ2 = .ok (.d (.int ws.length)) μ2 := fun r6 r7 => eBi_1 (g := lenD) (f := eV 5) (a := .lst ws) (z := .int ws.length) (by simp only [eV_0, eV_s]) rfl
  have e6 : ∀ r6 r7, eBi intD (aCons (eOp eqD (eV 3) (eC (.int 2))) aNil) [some (.c k), some (.d (.str t)), some (.d (.int at_)), some (.d (.int way)), none, some (.d (.lst ws)), r6, r7] μ4 = .ok (.d (.int z)) μ4 := fun r6 r7 => by
    rw [hz]
    exact eBi_1 (g := intD) (a := .bl (decide (way = 2))) (by simp only [eOp, eV_0, eV_s, eC, bnd1_ok, op2_d, q2]) rfl
  unfold bentB
  generalize eBi lenD (aCons (eV 1) aNil) = B1 at *
  generalize eBi lenD (aCons (eV 5) aNil) = B5 at *
  generalize eBi intD (aCons (eOp eqD (eV 3) (eC (.int 2))) aNil) = B6 at *
  subst h13
  simp only [sSeq_o, sPar, aCons, aNil, eCall_2, eV_0, eV_s, eC, eOp, bnd1_ok, e1, op2_d, ad, ad2, h1, h2, toSA_ok, List.set, seqO_nx, sIf_o, bT_o, q, q1, asB_o, toSB_ok, if_ff, sNil, sSet, eMt, opM, view, hs, toS_ok, e5, h3, sRet, eSl, oNone, oSome, asI, op3, s1, eLst, h4, l1, a1, e6, s2, a2, hj]
end
theorem bent_ok {μ : Mu} {k n N : Nat} {t : Str} (h : Src μ k n) (ht : okT N t) (hN : N ≤ 200) : ∃ t' μ', f__law_bent [.c k, .d (.str t)] μ = .ok (.d (.str t')) μ' ∧ Stp k μ μ' ∧ okT (2 * N + 10) t' := by
  have hl := ht.len
  have hb2 : ((t.length : Int) + 1).natAbs.log2 < 9000 := Nat.lt_of_le_of_lt (Nat.log2_le_self _) (by omega)
  obtain ⟨r, μ1, e1, s1, r0, r1⟩ := pick_ok h (many := (t.length : Int) + 1) (by omega) hb2
  have h1 := s1.src h
  obtain ⟨way, μ2, e2, s2, w0, w1⟩ := pick_ok h1 (many := 4) (by decide) (by decide)
  have h2 := s2.src h1
  have s12 := s1.trans s2
  have er : rho0 8 [S.c k, .d (.str t)] = [some (.c k), some (.d (.str t)), none, none, none, none, none, none] := rfl
  have ln := len_str ht (by omega)
  by_cases c0 : way = 0
  · subst c0
    obtain ⟨d, μ3, e3, s3, m3⟩ := chosen_ok h2 (l := L9) (by decide) (by decide)
    obtain ⟨w, rfl, hw⟩ := strs_ok d (List.mem_append_left _ m3)
    have k1 := okT_cut ht none (some r)
    have k2 := okT_cut ht (some r) none
    have k3 := okT_app k1 hw
    have st := s12.trans s3
    refine ⟨L2.cutS t none (some r) ++ w ++ L2.cutS t (some r) none, μ3, ?_, st, ?_⟩
    · unfold f__law_bent
      refine fnD_o (d := .str (L2.cutS t none (some r) ++ w ++ L2.cutS t (some r) none)) ?_ st.len
      rw [er]
      unfold d__law_bent
      rw [e_pick, e_chosen]
      exact bent_0 ln e1 e2 (mkL9 μ) e3 (sl_str ht (by omega) _ _) (sl_str ht (by omega) _ _) (add_str k1 hw (by omega)) (add_str k3 k2 (by omega))
    · have := okT_app k3 k2
      exact ⟨this.lo, by have := this.len; omega⟩
  by_cases c1 : way = 1
  · subst c1
    have k1 := okT_cut ht none (some r)
    have k2 := okT_cut ht (some (r + 1)) none
    refine ⟨L2.cutS t none (some r) ++ L2.cutS t (some (r + 1)) none, μ2, ?_, s12, ?_⟩
    · unfold f__law_bent
      refine fnD_o (d := .str (L2.cutS t none (some r) ++ L2.cutS t (some (r + 1)) none)) ?_ s12.len
      rw [er]
      unfold d__law_bent
      rw [e_pick, e_chosen]
      exact bent_1 ln e1 e2 (sl_str ht (by omega) _ _) (sl_str ht (by omega) _ _) (add_str k1 k2 (by omega))
    · have := okT_app k1 k2
      exact ⟨this.lo, by have := this.len; omega⟩
  · have sl := split_len t
    have sz : sizeW ((Txt.split t " ").map TL.tl) = t.length + 1 := by
      rw [split_tl, spl_size, ← TL.len_tl]
      simp
    generalize hW : Txt.split t " " = ws at *
    have hb3 : ((ws.length : Int)).natAbs.log2 < 9000 := Nat.lt_of_le_of_lt (Nat.log2_le_self _) (by omega)
    obtain ⟨here, μ3, e3, s3, q0, q1⟩ := pick_ok h2 (many := (ws.length : Int)) (by omega) hb3
    have h3 := s3.src h2
    obtain ⟨d, μ4, e4, s4, m4⟩ := chosen_ok h3 (l := L13) (by decide) (by decide)
    obtain ⟨w, rfl, hw⟩ := strs_ok d (List.mem_append_right _ m4)
    have st := (s12.trans s3).trans s4
    obtain ⟨z, hz⟩ : ∃ z : Int, z = if decide (way = 2) = true then 1 else 0 := ⟨_, rfl⟩
    have z0 : 0 ≤ z := by rw [hz]; split <;> decide
    have sp : splitD t (.str " ") = some (.lst (ws.map .str)) := by rw [← hW]; exact splitD_ok (by omega)
    have d1 : slD (.lst (ws.map .str)) none (some here) = some (.lst ((ws.take here.toNat).map .str)) := by
      show some (D.lst (cutL (ws.map D.str) none (some here))) = _
      rw [cut_to q0, List.map_take]
    have d2 : slD (.lst (ws.map .str)) (some (here + z)) none = some (.lst ((ws.drop (here + z).toNat).map .str)) := by
      show some (D.lst (cutL (ws.map D.str) (some (here + z)) none)) = _
      rw [cut_from (by omega), List.map_drop]
    have a1 : addD (.lst ((ws.take here.toNat).map .str)) (.lst [.str w]) = some (.lst ((ws.take here.toNat ++ [w]).map .str)) := by
      rw [addD_lst (by rw [List.length_map, List.length_take]; show _ + 1 ≤ cap; unfold cap; omega), List.map_append]
      rfl
    have a2 : addD (.lst ((ws.take here.toNat ++ [w]).map .str)) (.lst ((ws.drop (here + z).toNat).map .str)) = some (.lst ((ws.take here.toNat ++ [w] ++ ws.drop (here + z).toNat).map .str)) := by
      rw [addD_lst (by rw [List.length_map, List.length_map, List.length_append, List.length_take, List.length_drop]; show _ + 1 + _ ≤ cap; unfold cap; omega), ← List.map_append]
    have size : sizeW ((ws.take here.toNat ++ [w] ++ ws.drop (here + z).toNat).map TL.tl) ≤ 2 * N + 10 := by
      rw [List.map_append, List.map_append, sizeW_app, sizeW_app, List.map_take, List.map_drop]
      have b1 := sizeW_take (ws.map TL.tl) here.toNat
      have b2 := sizeW_drop (ws.map TL.tl) (here + z).toNat
      have b3 : sizeW ([w].map TL.tl) = w.length + 1 := by
        rw [TL.len_tl]
        simp [sizeW]
      have b4 := hw.len
      omega
    have hj := joinD_ok (ws := ws.take here.toNat ++ [w] ++ ws.drop (here + z).toNat) (by omega)
    have e3 : g_pick [.c k, .d (.int (ws.map D.str).length)] μ2 = .ok (.d (.int here)) μ3 := by rw [List.length_map]; exact e3
    refine ⟨Txt.join " " (ws.take here.toNat ++ [w] ++ ws.drop (here + z).toNat), μ4, ?_, st, ?_⟩
    · unfold f__law_bent
      refine fnD_o (d := .str (Txt.join " " (ws.take here.toNat ++ [w] ++ ws.drop (here + z).toNat))) ?_ st.len
      rw [er]
      unfold d__law_bent
      rw [e_pick, e_chosen]
      exact bent_2 (ha := true) (hb := true) ln e1 e2 c0 c1 sp e3 (mkL13 μ) d1 e4 a1 hz d2 a2 hj
    · refine okT_join (fun x hx => ?_) size
      have lo : ∀ y ∈ ws, ∀ c ∈ TL.tl y, c < 256 := fun y hy => split_lo ht.lo (by rw [hW]; exact hy)
      simp only [List.mem_append, List.mem_singleton] at hx
      rcases hx with (hx | hx) | hx
      · exact lo x (List.mem_of_mem_take hx)
      · rw [hx]; exact hw.lo
      · exact lo x (List.mem_of_mem_drop hx)
end Law

set_option maxHeartbeats 2000000
namespace Law
open PySem PySem.Spec PyProof.Rows L2 GF
theorem encF_self (f : Fl) : PyData.eqv (toPy (encF f)) (toPy (encF f)) = true := by
  obtain ⟨a, b⟩ := f
  simp [encF, toPy, toPyA, PyData.eqv, PyData.eqvAll]
theorem encA_self : ∀ l : List Fl, PyData.eqvAll (toPyA (l.map encF)) (toPyA (l.map encF)) = true
  | [] => by simp [toPyA, PyData.eqvAll]
  | f :: l => by
    rw [List.map_cons, toPyA, PyData.eqvAll, encF_self, encA_self l]; rfl
theorem encS_self (l : List Fl) : eqvD (encS l) (encS l) = true := by
  unfold eqvD encS
  rw [toPy, PyData.eqv]
  exact encA_self l
theorem ne_encS (l : List Fl) : neD (encS l) (encS l) = some (.bl false) := by
  unfold neD
  rw [if_pos ⟨shaped_of (encS_dat l) (by decide), shaped_of (encS_dat l) (by decide)⟩, encS_self]
  rfl
theorem ne_int (i : Int) : neD (.int i) (.int i) = some (.bl false) := by
  unfold neD
  rw [if_pos ⟨shaped_int i, shaped_int i⟩, eqv_int, decide_eq_true rfl]
  rfl
theorem ne_str {t : Str} (h : PyData.strOk t = true) : neD (.str t) (.str t) = some (.bl false) := by
  have s : SeqAt.shaped (toPy (.str t)) = true := shaped_of (k := 0) (d := .str t) (by rw [dat]; exact h) (by decide)
  unfold neD
  rw [if_pos ⟨s, s⟩]
  simp [eqvD, toPy, PyData.eqv]
theorem ne_readR (t : Str) : neD (readR t) (readR t) = some (.bl false) := by
  unfold readR
  split
  · exact ne_encS []
  · split
    · exact ne_int _
    · rename_i l _
      split
      · exact ne_encS l
      · exact ne_int _
section
variable {be rd du tx gs sc lt st : List S → Mu → Out S} {lb1 lb2 : FS} {scr c : Nat} {r0 r1 r3 r5 r6 r7 : Option S} {μ μ1 μ2 μ3 : Mu}
theorem turn_y {k : Nat} {i : Int} {t t1 t2 : Str} {R : D} (hi : modD (.int i) (.int 3) = some (.int 0)) (h1 : be [.c k, .d (.str t)] μ = .ok (.d (.str t1)) μ1) (h2 : be [.c k, .d (.str t1)] μ1 = .ok (.d (.str t2)) μ2) (h3 : rd [.d (.str t2)] μ2 = .ok (.d R) μ2) (h4 : du [.d (.str t2)] μ2 = .ok (.d R) μ2) (hn : neD R R = some (.bl false)) :
    (sSeq (sSet 6 (eCall 2 be (aCons (eV 2) (aCons (eV 4) aNil))))
      (sSeq (sSet 6 (eIf (bT (eOp eqD (eOp modD (eV 5) (eC (.int 3))) (eC (.int 0)))) (eCall 2 be (aCons (eV 2) (aCons (eV 6) aNil))) (eV 6)))
      (sIf (bT (eOp neD (eCall 1 rd (aCons (eV 6) aNil)) (eCall 1 du (aCons (eV 6) aNil))))
      (sRet (eC (.bl false)))
      sNil))) [r0, r1, some (.c k), r3, some (.d (.str t)), some (.d (.int i)), r6, r7] μ = .nx [r0, r1, some (.c k), r3, some (.d (.str t)), some (.d (.int i)), some (.d (.str t2)), r7] μ2 := by
  have q := eq_int 0 0
  rw [decide_eq_true rfl] at q
  simp only [sSeq_o, sSet, eCall_2, eCall_1, eV_0, eV_s, eC, eOp, bnd1_ok, h1, toS_ok, List.set, seqO_nx, eIf, bT_o, op2_d, hi, q, asB_o, if_tt, if_true, h2, sIf_o, h3, h4, hn, toSB_ok, if_ff, sNil]
theorem turn_n {k : Nat} {i m : Int} {t t1 : Str} {R : D} (hi : modD (.int i) (.int 3) = some (.int m)) (hm : m ≠ 0) (h1 : be [.c k, .d (.str t)] μ = .ok (.d (.str t1)) μ1) (h3 : rd [.d (.str t1)] μ1 = .ok (.d R) μ1) (h4 : du [.d (.str t1)] μ1 = .ok (.d R) μ1) (hn : neD R R = some (.bl false)) :
    (sSeq (sSet 6 (eCall 2 be (aCons (eV 2) (aCons (eV 4) aNil))))
      (sSeq (sSet 6 (eIf (bT (eOp eqD (eOp modD (eV 5) (eC (.int 3))) (eC (.int 0)))) (eCall 2 be (aCons (eV 2) (aCons (eV 6) aNil))) (eV 6)))
      (sIf (bT (eOp neD (eCall 1 rd (aCons (eV 6) aNil)) (eCall 1 du (aCons (eV 6) aNil))))
      (sRet (eC (.bl false)))
      sNil))) [r0, r1, some (.c k), r3, some (.d (.str t)), some (.d (.int i)), r6, r7] μ = .nx [r0, r1, some (.c k), r3, some (.d (.str t)), some (.d (.int i)), some (.d (.str t1)), r7] μ1 := by
  have q := eq_int m 0
  rw [decide_eq_false hm] at q
  simp only [sSeq_o, sSet, eCall_2, eCall_1, eV_0, eV_s, eC, eOp, bnd1_ok, h1, toS_ok, List.set, seqO_nx, eIf, bT_o, op2_d, hi, q, asB_o, if_ff, sIf_o, h3, h4, hn, toSB_ok, sNil]
theorem odd_b {r2 r4 : Option S} {v : D} (h : rd [.d v] μ = .ok (.d (.int 0)) μ) : (sIf (bT (eOp neD (eCall 1 rd (aCons (eV 7) aNil)) (eC (.int 0))))
      (sRet (eC (.bl false)))
      sNil) [r0, r1, r2, r3, r4, r5, r6, some (.d v)] μ = .nx [r0, r1, r2, r3, r4, r5, r6, some (.d v)] μ := by
  have q := ne_int 0
  simp only [sIf_o, bT_o, eOp, eCall_1, eV_0, eV_s, eC, bnd1_ok, h, op2_d, q, asB_o, toSB_ok, if_ff, sNil]
theorem cell_b {k : Nat} {E : D} {t : Str} {ns : List Int} {kk : Int} {r2 r4 b5 b6 b6' b7 : Option S} {μ4 : Mu} (h1 : gs [.d (.scr ns), .d (.int kk)] μ = .ok (.c k) μ1) (h2 : sc [.c k, .d (.int 8)] μ1 = .ok (.d E) μ2) (h3 : lt [.d E] μ2 = .ok (.d (.str t)) μ2) (h4 : st [.d E] μ2 = .ok (.d (.str t)) μ2) (n1 : neD (.str t) (.str t) = some (.bl false))
    (h5 : rd [.d (.str t)] μ2 = .ok (.d E) μ2) (n2 : neD E E = some (.bl false)) (e1 : forD (gN 5) lb1 (upD 0 14) [some (.d (.scr ns)), some (.d (.int kk)), some (.c k), some (.d E), some (.d (.str t)), r5, r6, r7] μ2 = .nx [some (.d (.scr ns)), some (.d (.int kk)), some (.c k), some (.d E), some (.d (.str t)), b5, b6, r7] μ3)
    (e2 : forD (gN 7) lb2 [.non, E, .lst [.str t], .int 5] [some (.d (.scr ns)), some (.d (.int kk)), some (.c k), some (.d E), some (.d (.str t)), b5, b6, r7] μ3 = .nx [some (.d (.scr ns)), some (.d (.int kk)), some (.c k), some (.d E), some (.d (.str t)), b5, b6, b7] μ4) :
    (sSeq (sSet 2 (eCall 2 gs (aCons (eV 0) (aCons (eV 1) aNil))))
      (sSeq (sSet 3 (eCall 2 sc (aCons (eV 2) (aCons (eC (.int 8)) aNil))))
      (sSeq (sSet 4 (eCall 1 lt (aCons (eV 3) aNil)))
      (sSeq (sIf (bOr (bT (eOp neD (eCall 1 st (aCons (eV 3) aNil)) (eV 4))) (bT (eOp neD (eCall 1 rd (aCons (eV 4) aNil)) (eV 3))))
      (sRet (eC (.bl false)))
      sNil)
      (sSeq (sFor (iRange1 (aCons (eC (.int 14)) aNil)) (gN 5)
      lb1)
      (sFor (iSeq (eLst (aCons (eC .non) (aCons (eV 3) (aCons (eLst (aCons (eV 4) aNil)) (aCons (eC (.int 5)) aNil)))))) (gN 7)
      lb2)))))) [some (.d (.scr ns)), some (.d (.int kk)), r2, r3, r4, r5, r6, r7] μ = .nx [some (.d (.scr ns)), some (.d (.int kk)), some (.c k), some (.d E), some (.d (.str t)), b5, b6, b7] μ4 := by
  have l1 : ∀ μ, mkLst [.d (.str t)] μ = .ok (.d (.lst [.str t])) μ := fun μ => mkLst_n μ rfl (by show (1 : Nat) ≤ cap; decide)
  have l4 : ∀ μ, mkLst [.d .non, .d E, .d (.lst [.str t]), .d (.int 5)] μ = .ok (.d (.lst [.non, E, .lst [.str t], .int 5])) μ := fun μ => mkLst_n μ rfl (by show (4 : Nat) ≤ cap; decide)
  have ir : ∀ ρ μ, iRange1 (aCons (eC (.int 14)) aNil) ρ μ = .ok (upD 0 14) μ := fun ρ μ => by
    unfold iRange1
    simp only [aCons, aNil, eC, bnd1_ok]
    exact rng1_ok (by unfold bigR; omega)
  generalize iRange1 (aCons (eC (.int 14)) aNil) = F at *
  simp only [sSeq_o, sSet, sFor, iSeq, eLst, aCons, aNil, eCall_2, eCall_1, eV_0, eV_s, eC, eOp, bnd1_ok, h1, h2, h3, h4, h5, toS_ok, List.set, seqO_nx, sIf_o, bT_o, bOr, op2_d, n1, n2, asB_o, toSB_ok, if_ff, sNil, ir, toSI_ok, e1, l1, l4, seqOf_l, e2]
end
/-! ### the loops -/
theorem mod3 (i : Int) : modD (.int i) (.int 3) = some (.int (i % 3)) := rfl
theorem t_turn {r0 r1 r3 r6 r7 : Option S} {μ : Mu} {k n : Nat} {i : Int} {t : Str} (h : Src μ k n) (ht : okT 40 t) : ∃ b6 μ', lb1_law [r0, r1, some (.c k), r3, some (.d (.str t)), some (.d (.int i)), r6, r7] μ = .nx [r0, r1, some (.c k), r3, some (.d (.str t)), some (.d (.int i)), b6, r7] μ' ∧ Stp k μ μ' := by
  obtain ⟨t1, μ1, e1, s1, ok1⟩ := bent_ok h ht (by decide)
  have h1 := s1.src h
  by_cases c : i % 3 = 0
  · obtain ⟨t2, μ2, e2, s2, ok2⟩ := bent_ok h1 ok1 (by decide)
    refine ⟨some (.d (.str t2)), μ2, ?_, s1.trans s2⟩
    have hl : okT 500 t2 := ⟨ok2.lo, by have := ok2.len; omega⟩
    unfold lb1_law
    exact turn_y (by rw [mod3, c]) e1 e2 (lread_str hl.ok hl.len) (due_ok hl) (ne_readR t2)
  · refine ⟨some (.d (.str t1)), μ1, ?_, s1⟩
    have hl : okT 500 t1 := ⟨ok1.lo, by have := ok1.len; omega⟩
    unfold lb1_law
    exact turn_n (mod3 i) c e1 (lread_str hl.ok hl.len) (due_ok hl) (ne_readR t1)
theorem turns {r0 r1 r3 r5 r6 r7 : Option S} {μ : Mu} {k n : Nat} {t : Str} (h : Src μ k n) (ht : okT 40 t) : ∃ b5 b6 μ', forD (gN 5) lb1_law (upD 0 14) [r0, r1, some (.c k), r3, some (.d (.str t)), r5, r6, r7] μ = .nx [r0, r1, some (.c k), r3, some (.d (.str t)), b5, b6, r7] μ' ∧ Src μ' k n := by
  obtain ⟨ρ1, μ1, e, ⟨b5, b6, hρ, hs⟩⟩ := forD_inv (t := gN 5) (body := lb1_law) (fun ρ μ' => ∃ b5 b6, ρ = [r0, r1, some (.c k), r3, some (.d (.str t)), b5, b6, r7] ∧ Src μ' k n) (upD 0 14) (ρ := [r0, r1, some (.c k), r3, some (.d (.str t)), r5, r6, r7]) (μ := μ) (fun x hx ρ μ' q => by
    obtain ⟨b5, b6, rfl, hs⟩ := q
    obtain ⟨i, rfl, _, _⟩ := upD_mem hx
    obtain ⟨c6, μ2, e2, s2⟩ := t_turn (r0 := r0) (r1 := r1) (r3 := r3) (r6 := b6) (r7 := r7) (i := i) hs ht
    exact ⟨_, rfl, _, μ2, e2, some (.d (.int i)), c6, rfl, s2.src hs⟩) ⟨r5, r6, rfl, h⟩
  subst hρ
  exact ⟨b5, b6, μ1, e, hs⟩
theorem odds {r0 r1 r2 r3 r4 r5 r6 r7 : Option S} {μ : Mu} {s : List Fl} {t : Str} : ∃ b7, forD (gN 7) lb2_law [.non, encS s, .lst [.str t], .int 5] [r0, r1, r2, r3, r4, r5, r6, r7] μ = .nx [r0, r1, r2, r3, r4, r5, r6, b7] μ := by
  obtain ⟨ρ1, μ1, e, ⟨b7, hρ, hs⟩⟩ := forD_inv (t := gN 7) (body := lb2_law) (fun ρ μ' => ∃ b7, ρ = [r0, r1, r2, r3, r4, r5, r6, b7] ∧ μ' = μ) [.non, encS s, .lst [.str t], .int 5] (ρ := [r0, r1, r2, r3, r4, r5, r6, r7]) (μ := μ) (fun x hx ρ μ' q => by
    obtain ⟨b7, rfl, rfl⟩ := q
    have ns : isiD [x, .ty "str"] = some (.bl false) := by
      simp only [List.mem_cons, List.not_mem_nil, or_false] at hx
      rcases hx with z | z | z | z <;> subst z <;> rfl
    refine ⟨_, rfl, _, μ', ?_, some (.d x), rfl, rfl⟩
    unfold lb2_law
    exact odd_b (lread_no ns)) ⟨r7, rfl, rfl⟩
  subst hρ hs
  exact ⟨b7, e⟩
theorem cell_turn {ns : List Int} {a2 a3 a4 a5 a6 a7 : Option S} {kk : Int} {μ : Mu} (hk : 0 ≤ kk) : ∃ b2 b3 b4 b5 b6 b7 μ', lb3_law [some (.d (.scr ns)), some (.d (.int kk)), a2, a3, a4, a5, a6, a7] μ = .nx [some (.d (.scr ns)), some (.d (.int kk)), b2, b3, b4, b5, b6, b7] μ' := by
  obtain ⟨u, v, e1⟩ := source_ok (μ := μ) (ns := ns) hk
  have h1 : Src (μ ++ [.lst [.int u, .int v]]) μ.length (μ.length + 1) := ⟨by simp, u, v, by simp⟩
  obtain ⟨l, μ2, e2, s2, okl, hl⟩ := script_ok h1 (most := 8) (by decide) (by decide)
  have hl : l.length ≤ 8 := hl
  have h2 := s2.src h1
  have hs : ∀ f ∈ l, f ∈ every := fun f hf => every_mem (okl f hf)
  have ht := okT_txt hs hl
  have hr : readR (txt l) = encS l := read_txt hs hl
  have er := lread_str (μ := μ2) ht.ok (Nat.le_trans ht.len (by decide))
  rw [hr] at er
  obtain ⟨b5, b6, μ3, e3, h3⟩ := turns (r0 := some (.d (.scr ns))) (r1 := some (.d (.int kk))) (r3 := some (.d (encS l))) (r5 := a5) (r6 := a6) (r7 := a7) h2 ht
  obtain ⟨b7, e4⟩ := odds (r0 := some (.d (.scr ns))) (r1 := some (.d (.int kk))) (r2 := some (.c μ.length)) (r3 := some (.d (encS l))) (r4 := some (.d (.str (txt l)))) (r5 := b5) (r6 := b6) (r7 := a7) (μ := μ3) (s := l) (t := txt l)
  refine ⟨some (.c μ.length), some (.d (encS l)), some (.d (.str (txt l))), b5, b6, b7, μ3, ?_⟩
  unfold lb3_law
  rw [e_source, e_script]
  exact cell_b (b6' := none) e1 e2 (ltext_ok hs hl) (script_text_ok okl hl) (ne_str ht.ok) er (ne_encS l) e3 e4
theorem law_true_of (hw : ∀ μ, ∃ μ', f__law_written [] μ = .ok (.d (.bl true)) μ') : ∀ ns : List Int, ns.length ≤ 63 → ∃ μ, f_law [.d (.scr ns)] [] = .ok (.d (.bl true)) μ := by
  intro ns hns
  have er : rho0 8 [S.d (.scr ns)] = [some (.d (.scr ns)), none, none, none, none, none, none, none] := rfl
  obtain ⟨n, hi⟩ := iter_ok (ns := ns) (lo := 6) (hi := 16) (ρ := [none, none, none, none, none, none, none]) (μ := []) (by decide) (by decide) (by decide) (by decide)
  obtain ⟨ρ', μ', e, _⟩ := forD_inv (t := gN 1) (body := lb3_law) (fun ρ _ => ∃ a1 a2 a3 a4 a5 a6 a7, ρ = [some (.d (.scr ns)), a1, a2, a3, a4, a5, a6, a7]) (upD 0 n) (ρ := [some (.d (.scr ns)), none, none, none, none, none, none, none]) (μ := []) (fun x hx ρ μ h => by
    obtain ⟨a1, a2, a3, a4, a5, a6, a7, rfl⟩ := h
    obtain ⟨i, rfl, i0, _⟩ := upD_mem hx
    obtain ⟨b2, b3, b4, b5, b6, b7, μ', e⟩ := cell_turn (ns := ns) (a2 := a2) (a3 := a3) (a4 := a4) (a5 := a5) (a6 := a6) (a7 := a7) (kk := i) (μ := μ) i0
    exact ⟨_, rfl, _, μ', e, _, _, _, _, _, _, _, rfl⟩) ⟨_, _, _, _, _, _, _, rfl⟩
  obtain ⟨μw, ew⟩ := hw μ'
  refine ⟨μw.take 0, ?_⟩
  have hb : d_law (rho0 8 [S.d (.scr ns)]) [] = .rt (.d (.bl true)) μw := by
    rw [er]
    unfold d_law
    exact law_body hi e ew
  unfold f_law
  rw [fnD_rt hb]
  rfl
end Law

set_option maxHeartbeats 2000000
namespace Law
open PySem PySem.Spec PyProof.Rows L2 GF
theorem lcD_none {t : D → Rho → Option Rho} {ft : FB} {fe : FE} {ρ : Rho} {μ : Mu} : ∀ (l : List D), (∀ x ∈ l, ∃ ρ1, t x ρ = some ρ1 ∧ ft ρ1 μ = .ok false μ) → lcD t ft fe ρ l μ = .ok [] μ
  | [], _ => lcD_nil
  | x :: l, h => by
    obtain ⟨ρ1, h1, h2⟩ := h x List.mem_cons_self
    unfold lcD
    rw [h1]
    dsimp only
    rw [h2]
    dsimp only
    exact lcD_none l fun y hy => h y (List.mem_cons_of_mem _ hy)
abbrev Q1 : D := .lst [.tup [.str "", .int 1], .tup [.non, .int 0], .tup [.str "-  -", .int 1], .tup [.str "top1 ", .int 2]]
abbrev M2 : List D := [.tup [.str " top1", .int 1], .tup [.str "top1  but0", .int 2], .tup [.str "top0", .int 1], .tup [.str "but7", .int 1]]
abbrev M3 : List D := [.tup [.str (Txt.join " " (List.replicate 9 ("top1" : Str))), .int 9], .tup [.str (Txt.join " " (List.replicate 30 ("top1" : Str))), .int 9]]
abbrev M4 : List D := [.tup [.str (Txt.join " " (List.replicate 9 ("top1" : Str) ++ [("x" : Str)])), .int 10]]
abbrev M5 : List D := [.tup [.str "top1 -", .int 2], .tup [.str "- top1", .int 1], .tup [.str "top01", .int 1], .tup [.str "but1\n", .int 1]]
abbrev M6 : List D := [.tup [.str "TOP1", .int 1], .tup [.tup [.str "top", .int 1], .int 0], .tup [.str "top1,but0", .int 1]]
abbrev M1 : List D := [.tup [.str "", .int 1], .tup [.non, .int 0], .tup [.str "-  -", .int 1], .tup [.str "top1 ", .int 2]]
theorem w1 (μ : Mu) : sSet 0 (eLst (aCons (eTup (aCons (eC (.str "")) (aCons (eC (.int 1)) aNil))) (aCons (eTup (aCons (eC .non) (aCons (eC (.int 0)) aNil))) (aCons (eTup (aCons (eC (.str "-  -")) (aCons (eC (.int 1)) aNil))) (aCons (eTup (aCons (eC (.str "top1 ")) (aCons (eC (.int 2)) aNil))) aNil))))) [none, none, none] μ = .nx [some (.d (.lst M1)), none, none] μ := by kernel_rfl
theorem w2 (μ : Mu) : sSet 0 (eOp addD (eV 0) (eLst (aCons (eTup (aCons (eC (.str " top1")) (aCons (eC (.int 1)) aNil))) (aCons (eTup (aCons (eC (.str "top1  but0")) (aCons (eC (.int 2)) aNil))) (aCons (eTup (aCons (eC (.str "top0")) (aCons (eC (.int 1)) aNil))) (aCons (eTup (aCons (eC (.str "but7")) (aCons (eC (.int 1)) aNil))) aNil)))))) [some (.d (.lst M1)), none, none] μ = .nx [some (.d (.lst (M1 ++ M2))), none, none] μ := by kernel_rfl
theorem w3 (μ : Mu) : sSet 0 (eOp addD (eV 0) (eLst (aCons (eTup (aCons (eMt joinD (eC (.str " ")) (eOp mulD (eLst (aCons (eC (.str "top1")) aNil)) (eC (.int 9)))) (aCons (eC (.int 9)) aNil))) (aCons (eTup (aCons (eMt joinD (eC (.str " ")) (eOp mulD (eLst (aCons (eC (.str "top1")) aNil)) (eC (.int 30)))) (aCons (eC (.int 9)) aNil))) aNil)))) [some (.d (.lst (M1 ++ M2))), none, none] μ = .nx [some (.d (.lst (M1 ++ M2 ++ M3))), none, none] μ := by kernel_rfl
theorem w4 (μ : Mu) : sSet 0 (eOp addD (eV 0) (eLst (aCons (eTup (aCons (eMt joinD (eC (.str " ")) (eOp addD (eOp mulD (eLst (aCons (eC (.str "top1")) aNil)) (eC (.int 9))) (eLst (aCons (eC (.str "x")) aNil)))) (aCons (eC (.int 10)) aNil))) aNil))) [some (.d (.lst (M1 ++ M2 ++ M3))), none, none] μ = .nx [some (.d (.lst (M1 ++ M2 ++ M3 ++ M4))), none, none] μ := by kernel_rfl
theorem w5 (μ : Mu) : sSet 0 (eOp addD (eV 0) (eLst (aCons (eTup (aCons (eC (.str "top1 -")) (aCons (eC (.int 2)) aNil))) (aCons (eTup (aCons (eC (.str "- top1")) (aCons (eC (.int 1)) aNil))) (aCons (eTup (aCons (eC (.str "top01")) (aCons (eC (.int 1)) aNil))) (aCons (eTup (aCons (eC (.str "but1\n")) (aCons (eC (.int 1)) aNil))) aNil)))))) [some (.d (.lst (M1 ++ M2 ++ M3 ++ M4))), none, none] μ = .nx [some (.d (.lst (M1 ++ M2 ++ M3 ++ M4 ++ M5))), none, none] μ := by kernel_rfl
theorem w6 (μ : Mu) : sSet 0 (eOp addD (eV 0) (eLst (aCons (eTup (aCons (eC (.str "TOP1")) (aCons (eC (.int 1)) aNil))) (aCons (eTup (aCons (eTup (aCons (eC (.str "top")) (aCons (eC (.int 1)) aNil))) (aCons (eC (.int 0)) aNil))) (aCons (eTup (aCons (eC (.str "top1,but0")) (aCons (eC (.int 1)) aNil))) aNil))))) [some (.d (.lst (M1 ++ M2 ++ M3 ++ M4 ++ M5))), none, none] μ = .nx [some (.d (.lst (M1 ++ M2 ++ M3 ++ M4 ++ M5 ++ M6))), none, none] μ := by kernel_rfl
abbrev MM : List D := M1 ++ M2 ++ M3 ++ M4 ++ M5 ++ M6
def intO : D → Option Int
  | .int i => some i
  | _ => none
theorem intO_eq {d : D} {i : Int} (h : intO d = some i) : d = .int i := by
  cases d <;> simp [intO] at h
  rw [h]
def itemB : D → Bool
  | .tup [.str t, .int n] => PyData.strOk t && decide (t.length ≤ 500) && decide (intO (readR t) = some n)
  | .tup [.non, .int 0] => true
  | .tup [.tup _, .int 0] => true
  | _ => false
theorem items : MM.all itemB = true := by kernel_rfl
theorem item_b {rd : List S → Mu → Out S} {r0 : Option S} {a : D} {n : Int} {μ : Mu} (h : rd [.d a] μ = .ok (.d (.int n)) μ) : bT (eOp neD (eCall 1 rd (aCons (eV 1) aNil)) (eV 2)) [r0, some (.d a), some (.d (.int n))] μ = .ok false μ := by
  have q := ne_int n
  simp only [bT_o, eOp, eCall_1, eV_0, eV_s, bnd1_ok, h, op2_d, q, asB_o]
theorem item_ok {r0 : Option S} {x : D} {μ : Mu} (h : itemB x = true) : ∃ ρ1, gT 2 (gsC (gN 1) (gsC (gN 2) gsN)) x [r0, none, none] = some ρ1 ∧ bT (eOp neD (eCall 1 f__law_read (aCons (eV 1) aNil)) (eV 2)) ρ1 μ = .ok false μ := by
  unfold itemB at h
  split at h
  · rename_i t n
    rw [Bool.and_eq_true, Bool.and_eq_true, decide_eq_true_eq, decide_eq_true_eq] at h
    obtain ⟨⟨h1, h2⟩, h3⟩ := h
    have e := lread_str (μ := μ) h1 h2
    rw [intO_eq h3] at e
    exact ⟨[r0, some (.d (.str t)), some (.d (.int n))], rfl, item_b e⟩
  · exact ⟨_, rfl, item_b (lread_no rfl)⟩
  · exact ⟨_, rfl, item_b (lread_no rfl)⟩
  · cases h
theorem w7 (μ : Mu) : eLc (iSeq (eV 0)) (gT 2 (gsC (gN 1) (gsC (gN 2) gsN))) (bT (eOp neD (eCall 1 f__law_read (aCons (eV 1) aNil)) (eV 2))) (eV 1) [1, 2] [some (.d (.lst MM)), none, none] μ = .ok (.d (.lst [])) μ := by
  have hi : iSeq (eV 0) [some (.d (.lst MM)), none, none] μ = .ok MM μ := by simp only [iSeq, eV_0, bnd1_ok, seqOf_l]
  have hc : MM.length ≤ cap := by show (18 : Nat) ≤ cap; decide
  have h := lcD_none (t := gT 2 (gsC (gN 1) (gsC (gN 2) gsN))) (ft := bT (eOp neD (eCall 1 f__law_read (aCons (eV 1) aNil)) (eV 2))) (fe := eV 1) (ρ := [some (.d (.lst MM)), none, none]) (μ := μ) MM fun x hx => item_ok (List.all_eq_true.mp items x hx)
  unfold eLc
  rw [hi, bnd1_ok, if_pos hc, show wipeR [some (.d (.lst MM)), none, none] [1, 2] = [some (.d (.lst MM)), none, none] from rfl, h, bnd1_ok]
  rfl
theorem w8 (μ : Mu) (ρ : Rho) : eRef kinds9 (eCall 1 f_script_text (aCons (eC (.int 0)) aNil)) ρ μ = .ok (.d (.str "script")) μ := by
  refine eRef_exc (c := "InvalidScript") ?_ (by kernel_rfl)
  have e := script_text_bad (a := .int 0) (μ := μ) (by rw [dat]) (by kernel_rfl)
  generalize f_script_text = G at *
  simp only [eCall_1, eC, bnd1_ok, e]
section
variable {st rd : List S → Mu → Out S} {T1 X2 X3 Y3 LC RF : FE} {G1 G2 G3 G4 G5 G6 : FS} {a b8 : D} {t1 j8 : Str} {l : D} {v0 v1 v2 v3 v4 v5 : Rho} {μ : Mu} {e2 : D}
theorem written_body (h1 : T1 [none, none, none] μ = .ok (.d a) μ) (h2 : st [.d a] μ = .ok (.d (.str "top3 but1")) μ) (n1 : neD (.str "top3 but1") (.str "top3 but1") = some (.bl false)) (h3 : st [.d (.tup [])] μ = .ok (.d (.str "-")) μ) (n2 : neD (.str "-") (.str "-") = some (.bl false))
    (h4 : rd [.d (.str "-")] μ = .ok (.d (.tup [])) μ) (n3 : neD (.tup []) (.tup []) = some (.bl false)) (h5 : rd [.d (.str "but0 but1")] μ = .ok (.d e2) μ) (h6 : X2 [none, none, none] μ = .ok (.d e2) μ) (n4 : neD e2 e2 = some (.bl false))
    (h7 : X3 [none, none, none] μ = .ok (.d (.str j8)) μ) (h8 : rd [.d (.str j8)] μ = .ok (.d b8) μ) (h9 : Y3 [none, none, none] μ = .ok (.d b8) μ) (n5 : neD b8 b8 = some (.bl false))
    (g1 : G1 [none, none, none] μ = .nx v0 μ) (g2 : G2 v0 μ = .nx v1 μ) (g3 : G3 v1 μ = .nx v2 μ) (g4 : G4 v2 μ = .nx v3 μ) (g5 : G5 v3 μ = .nx v4 μ) (g6 : G6 v4 μ = .nx v5 μ) (g7 : LC v5 μ = .ok (.d (.lst [])) μ) (n6 : neD (.lst []) (.lst []) = some (.bl false))
    (g8 : RF v5 μ = .ok (.d (.str "script")) μ) (n7 : eqD (.str "script") (.str "script") = some (.bl true)) :
      (sSeq (sIf (bOr (bT (eOp neD (eCall 1 st (aCons T1 aNil)) (eC (.str "top3 but1")))) (bOr (bT (eOp neD (eCall 1 st (aCons (eTup aNil) aNil)) (eC (.str "-")))) (bT (eOp neD (eCall 1 rd (aCons (eC (.str "-")) aNil)) (eTup aNil)))))
      (sRet (eC (.bl false)))
      sNil)
      (sSeq (sIf (bT (eOp neD (eCall 1 rd (aCons (eC (.str "but0 but1")) aNil)) X2))
      (sRet (eC (.bl false)))
      sNil)
      (sSeq (sIf (bT (eOp neD (eCall 1 rd (aCons X3 aNil)) Y3))
      (sRet (eC (.bl false)))
      sNil)
      (sSeq G1
      (sSeq G2
      (sSeq G3
      (sSeq G4
      (sSeq G5
      (sSeq G6
      (sSeq (sIf (bT (eOp neD LC (eLst aNil)))
      (sRet (eC (.bl false)))
      sNil)
      (sRet (eOp eqD RF (eC (.str "script"))))))))))))))  [none, none, none] μ = .rt (.d (.bl true)) μ := by
  have l0 : ∀ μ, mkLst [] μ = .ok (.d (.lst [])) μ := fun μ => mkLst_n μ rfl (by show (0 : Nat) ≤ cap; decide)
  have en : ∀ ρ μ, eTup aNil ρ μ = .ok (.d (.tup [])) μ := fun ρ μ => by simp only [eTup, aNil, bnd1_ok, mkTup_0]
  have el : ∀ ρ μ, eLst aNil ρ μ = .ok (.d (.lst [])) μ := fun ρ μ => by simp only [eLst, aNil, bnd1_ok, l0]
  simp only [sSeq_o, sIf_o, bOr, bT_o, eOp, eCall_1, eC, bnd1_ok, h1, h2, op2_d, n1, asB_o, if_ff, en, h3, n2, h4, n3, toSB_ok, sNil, seqO_nx, h5, h6, n4, h7, h8, h9, n5, g1, g2, g3, g4, g5, g6, g7, el, n6, sRet, g8, n7, toS_ok]
end
theorem so {t : Str} (h : PyData.strOk t = true) : neD (.str t) (.str t) = some (.bl false) := ne_str h
theorem okL {s : List Fl} (h : (s.all fun f : Fl => decide ((if f.1 = true then (1 : Int) else 0) ≤ f.2 ∧ f.2 ≤ 6)) = true) : ∀ f ∈ s, okF f := fun f hf => by unfold okF; exact of_decide_eq_true (List.all_eq_true.mp h f hf)
theorem st_lit {s : List Fl} {a : D} {t : Str} {μ : Mu} (h : (s.all fun f : Fl => decide ((if f.1 = true then (1 : Int) else 0) ≤ f.2 ∧ f.2 ≤ 6)) = true) (hl : s.length ≤ 8) (ha : encS s = a) (ht : txt s = t) : f_script_text [.d a] μ = .ok (.d (.str t)) μ := by
  rw [← ha, ← ht]
  exact script_text_ok (okL h) hl
def tupO : D → Bool
  | .tup _ => true
  | _ => false
theorem rd_lit {t : Str} {d : D} {μ : Mu} (hk : PyData.strOk t = true) (hl : t.length ≤ 500) (e : readR t = d) (ht : tupO d = true) : f_read_script [.d (.str t)] μ = .ok (.d d) μ := by
  rcases read_str (μ := μ) hk hl with h | ⟨i, h1, _⟩
  · rw [h, e]
  · rw [← e, h1] at ht
    cases ht
abbrev J8 : Str := Txt.join " " (List.replicate 8 ("top6" : Str))
theorem written_ok (μ : Mu) : ∃ μ', f__law_written [] μ = .ok (.d (.bl true)) μ' := by
  refine ⟨μ, ?_⟩
  unfold f__law_written
  refine fnD_o ?_ rfl
  rw [show rho0 3 [] = [none, none, none] from rfl]
  unfold d__law_written
  have h8 := w8 μ [some (.d (.lst MM)), none, none]
  have h7 := w7 μ
  have s1 := st_lit (s := [(true, 3), (false, 1)]) (a := .tup [.tup [.str "top", .int 3], .tup [.str "but", .int 1]]) (t := "top3 but1") (μ := μ) (by decide) (by decide) (by kernel_rfl) (by kernel_rfl)
  have s2 := st_lit (s := []) (a := .tup []) (t := "-") (μ := μ) (by decide) (by decide) rfl rfl
  have r1 := rd_lit (t := "-") (d := .tup []) (μ := μ) (by kernel_rfl) (by decide +kernel) rfl rfl
  have r2 := rd_lit (t := "but0 but1") (d := encS [(false, 0), (false, 1)]) (μ := μ) (by kernel_rfl) (by decide +kernel) (by kernel_rfl) rfl
  have r3 := rd_lit (t := J8) (d := encS (List.replicate 8 (true, 6))) (μ := μ) (by kernel_rfl) (by decide +kernel) (by kernel_rfl) rfl
  generalize eRef kinds9 (eCall 1 f_script_text (aCons (eC (.int 0)) aNil)) = RF at *
  generalize eLc (iSeq (eV 0)) (gT 2 (gsC (gN 1) (gsC (gN 2) gsN))) (bT (eOp neD (eCall 1 f__law_read (aCons (eV 1) aNil)) (eV 2))) (eV 1) [1, 2] = LC at *
  generalize f_script_text = st at *
  generalize f_read_script = rd at *
  exact written_body (by kernel_rfl) s1 (so (by kernel_rfl)) s2 (so (by kernel_rfl)) r1 (ne_encS []) r2 (by kernel_rfl) (ne_encS _) (by kernel_rfl) r3 (by kernel_rfl) (ne_encS _) (w1 μ) (w2 μ) (w3 μ) (w4 μ) (w5 μ) (w6 μ) h7 rfl h8 (eq_str (by kernel_rfl) (by kernel_rfl))
theorem law_true : ∀ ns : List Int, ns.length ≤ 63 → ∃ μ, f_law [.d (.scr ns)] [] = .ok (.d (.bl true)) μ := law_true_of written_ok
end Law

namespace Law
open PySem PySem.Spec PyProof.Rows L2 GF
theorem all_mk {l : PySem.W.OpenLaw} {w : World} {K : PySem.W.Frag} {h : Heap} {mg : Str → Option Value} {fa : Addr} (X : K.In h) (G : h.Ns mainGlobals mg) (hfa : mg "law" = some (.ref fa))
    {od0 an0 : Option Addr} {sl0 : Array (Option Value)} {g0 : Addr} {oc0 kV0 dc0 pm0 cd0 ct0 : Value}
    {od1 an1 : Option Addr} {sl1 : Array (Option Value)} {g1 : Addr} {oc1 kV1 dc1 pm1 cd1 ct1 : Value}
    {od2 an2 : Option Addr} {sl2 : Array (Option Value)} {g2 : Addr} {oc2 kV2 dc2 pm2 cd2 ct2 : Value}
    {od3 an3 : Option Addr} {sl3 : Array (Option Value)} {g3 : Addr} {oc3 kV3 dc3 pm3 cd3 ct3 : Value}
    {od4 an4 : Option Addr} {sl4 : Array (Option Value)} {g4 : Addr} {oc4 kV4 dc4 pm4 cd4 ct4 : Value}
    {od5 an5 : Option Addr} {sl5 : Array (Option Value)} {g5 : Addr} {oc5 kV5 dc5 pm5 cd5 ct5 : Value}
    {od6 an6 : Option Addr} {sl6 : Array (Option Value)} {g6 : Addr} {oc6 kV6 dc6 pm6 cd6 ct6 : Value}
    {od7 an7 : Option Addr} {sl7 : Array (Option Value)} {g7 : Addr} {oc7 kV7 dc7 pm7 cd7 ct7 : Value}
    {od8 an8 : Option Addr} {sl8 : Array (Option Value)} {g8 : Addr} {oc8 kV8 dc8 pm8 cd8 ct8 : Value}
    {od9 an9 : Option Addr} {sl9 : Array (Option Value)} {g9 : Addr} {oc9 kV9 dc9 pm9 cd9 ct9 : Value}
    {od10 an10 : Option Addr} {sl10 : Array (Option Value)} {g10 : Addr} {oc10 kV10 dc10 pm10 cd10 ct10 : Value}
    {od11 an11 : Option Addr} {sl11 : Array (Option Value)} {g11 : Addr} {oc11 kV11 dc11 pm11 cd11 ct11 : Value}
    {od12 an12 : Option Addr} {sl12 : Array (Option Value)} {g12 : Addr} {oc12 kV12 dc12 pm12 cd12 ct12 : Value}
    {od13 an13 : Option Addr} {sl13 : Array (Option Value)} {g13 : Addr} {oc13 kV13 dc13 pm13 cd13 ct13 : Value}
    {od14 an14 : Option Addr} {sl14 : Array (Option Value)} {g14 : Addr} {oc14 kV14 dc14 pm14 cd14 ct14 : Value}
    {od15 an15 : Option Addr} {sl15 : Array (Option Value)} {g15 : Addr} {oc15 kV15 dc15 pm15 cd15 ct15 : Value}
    {od16 an16 : Option Addr} {sl16 : Array (Option Value)} {g16 : Addr} {oc16 kV16 dc16 pm16 cd16 ct16 : Value}
    {od17 an17 : Option Addr} {sl17 : Array (Option Value)} {g17 : Addr} {oc17 kV17 dc17 pm17 cd17 ct17 : Value}
    {od18 an18 : Option Addr} {sl18 : Array (Option Value)} {g18 : Addr} {oc18 kV18 dc18 pm18 cd18 ct18 : Value}
    {od19 an19 : Option Addr} {sl19 : Array (Option Value)} {g19 : Addr} {oc19 kV19 dc19 pm19 cd19 ct19 : Value}
    {od20 an20 : Option Addr} {sl20 : Array (Option Value)} {g20 : Addr} {oc20 kV20 dc20 pm20 cd20 ct20 : Value}
    {od21 an21 : Option Addr} {sl21 : Array (Option Value)} {g21 : Addr} {oc21 kV21 dc21 pm21 cd21 ct21 : Value}
    {od22 an22 : Option Addr} {sl22 : Array (Option Value)} {g22 : Addr} {oc22 kV22 dc22 pm22 cd22 ct22 : Value}
    {ce_InvalidFlip : Addr}
    {ce_InvalidScript : Addr}
    {ce_InvalidHeight : Addr}
    {ce_InvalidPlace : Addr}
    {ce_InvalidNumber : Addr}
    {ce_InvalidIndex : Addr}
    {ce_InvalidStack : Addr}
    {ce_Unlike : Addr}
    {ce_NothingToUndo : Addr}
    {ce_TooMany : Addr}
    {ce_InvalidText : Addr}
    {ce_FlipError : Addr}
    (a0 : PySem.W.nsIn K mainGlobals "is_int" = some (some (.ref g0))) (l0 : K.lookup g0 = some ⟨oc0, od0, .func (PySem.W.fnOf "is_int" "is_int" (defArgs s_is_int) (defBody s_is_int) (defScope s_is_int) .none kV0 dc0 pm0 an0 cd0 ct0), sl0⟩) (c0 : PySem.W.codeIn K cd0 "is_int" = true) (k0 : PySem.W.keepIn K (.ref g0) = true)
    (a1 : PySem.W.nsIn K mainGlobals "is_right_flip" = some (some (.ref g1))) (l1 : K.lookup g1 = some ⟨oc1, od1, .func (PySem.W.fnOf "is_right_flip" "is_right_flip" (defArgs s_is_right_flip) (defBody s_is_right_flip) (defScope s_is_right_flip) .none kV1 dc1 pm1 an1 cd1 ct1), sl1⟩) (c1 : PySem.W.codeIn K cd1 "is_right_flip" = true) (k1 : PySem.W.keepIn K (.ref g1) = true)
    (a2 : PySem.W.nsIn K mainGlobals "are_flips" = some (some (.ref g2))) (l2 : K.lookup g2 = some ⟨oc2, od2, .func (PySem.W.fnOf "are_flips" "are_flips" (defArgs s_are_flips) (defBody s_are_flips) (defScope s_are_flips) .none kV2 dc2 pm2 an2 cd2 ct2), sl2⟩) (c2 : PySem.W.codeIn K cd2 "are_flips" = true) (k2 : PySem.W.keepIn K (.ref g2) = true)
    (a3 : PySem.W.nsIn K mainGlobals "is_right_script" = some (some (.ref g3))) (l3 : K.lookup g3 = some ⟨oc3, od3, .func (PySem.W.fnOf "is_right_script" "is_right_script" (defArgs s_is_right_script) (defBody s_is_right_script) (defScope s_is_right_script) .none kV3 dc3 pm3 an3 cd3 ct3), sl3⟩) (c3 : PySem.W.codeIn K cd3 "is_right_script" = true) (k3 : PySem.W.keepIn K (.ref g3) = true)
    (a4 : PySem.W.nsIn K mainGlobals "need_script" = some (some (.ref g4))) (l4 : K.lookup g4 = some ⟨oc4, od4, .func (PySem.W.fnOf "need_script" "need_script" (defArgs s_need_script) (defBody s_need_script) (defScope s_need_script) .none kV4 dc4 pm4 an4 cd4 ct4), sl4⟩) (c4 : PySem.W.codeIn K cd4 "need_script" = true) (k4 : PySem.W.keepIn K (.ref g4) = true)
    (a5 : PySem.W.nsIn K mainGlobals "flip_text" = some (some (.ref g5))) (l5 : K.lookup g5 = some ⟨oc5, od5, .func (PySem.W.fnOf "flip_text" "flip_text" (defArgs s_flip_text) (defBody s_flip_text) (defScope s_flip_text) .none kV5 dc5 pm5 an5 cd5 ct5), sl5⟩) (c5 : PySem.W.codeIn K cd5 "flip_text" = true) (k5 : PySem.W.keepIn K (.ref g5) = true)
    (a6 : PySem.W.nsIn K mainGlobals "text_of" = some (some (.ref g6))) (l6 : K.lookup g6 = some ⟨oc6, od6, .func (PySem.W.fnOf "text_of" "text_of" (defArgs s_text_of) (defBody s_text_of) (defScope s_text_of) .none kV6 dc6 pm6 an6 cd6 ct6), sl6⟩) (c6 : PySem.W.codeIn K cd6 "text_of" = true) (k6 : PySem.W.keepIn K (.ref g6) = true)
    (a7 : PySem.W.nsIn K mainGlobals "script_text" = some (some (.ref g7))) (l7 : K.lookup g7 = some ⟨oc7, od7, .func (PySem.W.fnOf "script_text" "script_text" (defArgs s_script_text) (defBody s_script_text) (defScope s_script_text) .none kV7 dc7 pm7 an7 cd7 ct7), sl7⟩) (c7 : PySem.W.codeIn K cd7 "script_text" = true) (k7 : PySem.W.keepIn K (.ref g7) = true)
    (a8 : PySem.W.nsIn K mainGlobals "read_script" = some (some (.ref g8))) (l8 : K.lookup g8 = some ⟨oc8, od8, .func (PySem.W.fnOf "read_script" "read_script" (defArgs s_read_script) (defBody s_read_script) (defScope s_read_script) .none kV8 dc8 pm8 an8 cd8 ct8), sl8⟩) (c8 : PySem.W.codeIn K cd8 "read_script" = true) (k8 : PySem.W.keepIn K (.ref g8) = true)
    (a9 : PySem.W.nsIn K mainGlobals "_law_source" = some (some (.ref g9))) (l9 : K.lookup g9 = some ⟨oc9, od9, .func (PySem.W.fnOf "_law_source" "_law_source" (defArgs s__law_source) (defBody s__law_source) (defScope s__law_source) .none kV9 dc9 pm9 an9 cd9 ct9), sl9⟩) (c9 : PySem.W.codeIn K cd9 "_law_source" = true) (k9 : PySem.W.keepIn K (.ref g9) = true)
    (a10 : PySem.W.nsIn K mainGlobals "_law_pick" = some (some (.ref g10))) (l10 : K.lookup g10 = some ⟨oc10, od10, .func (PySem.W.fnOf "_law_pick" "_law_pick" (defArgs s__law_pick) (defBody s__law_pick) (defScope s__law_pick) .none kV10 dc10 pm10 an10 cd10 ct10), sl10⟩) (c10 : PySem.W.codeIn K cd10 "_law_pick" = true) (k10 : PySem.W.keepIn K (.ref g10) = true)
    (a11 : PySem.W.nsIn K mainGlobals "_law_chosen" = some (some (.ref g11))) (l11 : K.lookup g11 = some ⟨oc11, od11, .func (PySem.W.fnOf "_law_chosen" "_law_chosen" (defArgs s__law_chosen) (defBody s__law_chosen) (defScope s__law_chosen) .none kV11 dc11 pm11 an11 cd11 ct11), sl11⟩) (c11 : PySem.W.codeIn K cd11 "_law_chosen" = true) (k11 : PySem.W.keepIn K (.ref g11) = true)
    (a12 : PySem.W.nsIn K mainGlobals "_law_error" = some (some (.ref g12))) (l12 : K.lookup g12 = some ⟨oc12, od12, .func (PySem.W.fnOf "_law_error" "_law_error" (defArgs s__law_error) (defBody s__law_error) (defScope s__law_error) .none kV12 dc12 pm12 an12 cd12 ct12), sl12⟩) (c12 : PySem.W.codeIn K cd12 "_law_error" = true) (k12 : PySem.W.keepIn K (.ref g12) = true)
    (a13 : PySem.W.nsIn K mainGlobals "_law_refused" = some (some (.ref g13))) (l13 : K.lookup g13 = some ⟨oc13, od13, .func (PySem.W.fnOf "_law_refused" "_law_refused" (defArgs s__law_refused) (defBody s__law_refused) (defScope s__law_refused) .none kV13 dc13 pm13 an13 cd13 ct13), sl13⟩) (c13 : PySem.W.codeIn K cd13 "_law_refused" = true) (k13 : PySem.W.keepIn K (.ref g13) = true)
    (a14 : PySem.W.nsIn K mainGlobals "_law_flip" = some (some (.ref g14))) (l14 : K.lookup g14 = some ⟨oc14, od14, .func (PySem.W.fnOf "_law_flip" "_law_flip" (defArgs s__law_flip) (defBody s__law_flip) (defScope s__law_flip) .none kV14 dc14 pm14 an14 cd14 ct14), sl14⟩) (c14 : PySem.W.codeIn K cd14 "_law_flip" = true) (k14 : PySem.W.keepIn K (.ref g14) = true)
    (a15 : PySem.W.nsIn K mainGlobals "_law_script" = some (some (.ref g15))) (l15 : K.lookup g15 = some ⟨oc15, od15, .func (PySem.W.fnOf "_law_script" "_law_script" (defArgs s__law_script) (defBody s__law_script) (defScope s__law_script) .none kV15 dc15 pm15 an15 cd15 ct15), sl15⟩) (c15 : PySem.W.codeIn K cd15 "_law_script" = true) (k15 : PySem.W.keepIn K (.ref g15) = true)
    (a16 : PySem.W.nsIn K mainGlobals "_law_word_of" = some (some (.ref g16))) (l16 : K.lookup g16 = some ⟨oc16, od16, .func (PySem.W.fnOf "_law_word_of" "_law_word_of" (defArgs s__law_word_of) (defBody s__law_word_of) (defScope s__law_word_of) .none kV16 dc16 pm16 an16 cd16 ct16), sl16⟩) (c16 : PySem.W.codeIn K cd16 "_law_word_of" = true) (k16 : PySem.W.keepIn K (.ref g16) = true)
    (a17 : PySem.W.nsIn K mainGlobals "_law_text" = some (some (.ref g17))) (l17 : K.lookup g17 = some ⟨oc17, od17, .func (PySem.W.fnOf "_law_text" "_law_text" (defArgs s__law_text) (defBody s__law_text) (defScope s__law_text) .none kV17 dc17 pm17 an17 cd17 ct17), sl17⟩) (c17 : PySem.W.codeIn K cd17 "_law_text" = true) (k17 : PySem.W.keepIn K (.ref g17) = true)
    (a18 : PySem.W.nsIn K mainGlobals "_law_due" = some (some (.ref g18))) (l18 : K.lookup g18 = some ⟨oc18, od18, .func (PySem.W.fnOf "_law_due" "_law_due" (defArgs s__law_due) (defBody s__law_due) (defScope s__law_due) .none kV18 dc18 pm18 an18 cd18 ct18), sl18⟩) (c18 : PySem.W.codeIn K cd18 "_law_due" = true) (k18 : PySem.W.keepIn K (.ref g18) = true)
    (a19 : PySem.W.nsIn K mainGlobals "_law_read" = some (some (.ref g19))) (l19 : K.lookup g19 = some ⟨oc19, od19, .func (PySem.W.fnOf "_law_read" "_law_read" (defArgs s__law_read) (defBody s__law_read) (defScope s__law_read) .none kV19 dc19 pm19 an19 cd19 ct19), sl19⟩) (c19 : PySem.W.codeIn K cd19 "_law_read" = true) (k19 : PySem.W.keepIn K (.ref g19) = true)
    (a20 : PySem.W.nsIn K mainGlobals "_law_bent" = some (some (.ref g20))) (l20 : K.lookup g20 = some ⟨oc20, od20, .func (PySem.W.fnOf "_law_bent" "_law_bent" (defArgs s__law_bent) (defBody s__law_bent) (defScope s__law_bent) .none kV20 dc20 pm20 an20 cd20 ct20), sl20⟩) (c20 : PySem.W.codeIn K cd20 "_law_bent" = true) (k20 : PySem.W.keepIn K (.ref g20) = true)
    (a21 : PySem.W.nsIn K mainGlobals "_law_written" = some (some (.ref g21))) (l21 : K.lookup g21 = some ⟨oc21, od21, .func (PySem.W.fnOf "_law_written" "_law_written" (defArgs s__law_written) (defBody s__law_written) (defScope s__law_written) .none kV21 dc21 pm21 an21 cd21 ct21), sl21⟩) (c21 : PySem.W.codeIn K cd21 "_law_written" = true) (k21 : PySem.W.keepIn K (.ref g21) = true)
    (t21 : (PySem.W.tabIn K "_law_written").isSome = true)
    (a22 : PySem.W.nsIn K mainGlobals "law" = some (some (.ref g22))) (l22 : K.lookup g22 = some ⟨oc22, od22, .func (PySem.W.fnOf "law" "law" (defArgs s_law) (defBody s_law) (defScope s_law) .none kV22 dc22 pm22 an22 cd22 ct22), sl22⟩) (c22 : PySem.W.codeIn K cd22 "law" = true) (k22 : PySem.W.keepIn K (.ref g22) = true)
    (ma_InvalidFlip : PySem.W.nsIn K mainGlobals "InvalidFlip" = some (some (.ref ce_InvalidFlip)))
    (ma_InvalidScript : PySem.W.nsIn K mainGlobals "InvalidScript" = some (some (.ref ce_InvalidScript)))
    (ma_InvalidHeight : PySem.W.nsIn K mainGlobals "InvalidHeight" = some (some (.ref ce_InvalidHeight)))
    (ma_InvalidPlace : PySem.W.nsIn K mainGlobals "InvalidPlace" = some (some (.ref ce_InvalidPlace)))
    (ma_InvalidNumber : PySem.W.nsIn K mainGlobals "InvalidNumber" = some (some (.ref ce_InvalidNumber)))
    (ma_InvalidIndex : PySem.W.nsIn K mainGlobals "InvalidIndex" = some (some (.ref ce_InvalidIndex)))
    (ma_InvalidStack : PySem.W.nsIn K mainGlobals "InvalidStack" = some (some (.ref ce_InvalidStack)))
    (ma_Unlike : PySem.W.nsIn K mainGlobals "Unlike" = some (some (.ref ce_Unlike)))
    (ma_NothingToUndo : PySem.W.nsIn K mainGlobals "NothingToUndo" = some (some (.ref ce_NothingToUndo)))
    (ma_TooMany : PySem.W.nsIn K mainGlobals "TooMany" = some (some (.ref ce_TooMany)))
    (ma_InvalidText : PySem.W.nsIn K mainGlobals "InvalidText" = some (some (.ref ce_InvalidText)))
    (ma_FlipError : PySem.W.nsIn K mainGlobals "FlipError" = some (some (.ref ce_FlipError)))
    (rq_InvalidScript : PySem.W.excIn K ce_InvalidScript [.type "ValueError", .type "Exception", .type "BaseException", .type "object"] "ValueError.__new__" = true) (rk_InvalidScript : PySem.W.keepIn K (.ref ce_InvalidScript) = true) (rb_InvalidScript : PySem.W.subIn K (.ref ce_InvalidScript) (.type "BaseException") = some true) (rt_InvalidScript : PySem.W.typeIn K (.ref ce_InvalidScript) = some (.type "type"))
    (xe : errsB K ce_FlipError 9 [ce_InvalidFlip, ce_InvalidScript, ce_InvalidHeight, ce_InvalidPlace, ce_InvalidNumber, ce_InvalidIndex, ce_InvalidStack, ce_Unlike, ce_NothingToUndo, ce_TooMany, ce_InvalidText] = true)
    (z_all : PySem.W.nsIn K mainGlobals "all" = some none)
    (z_bool : PySem.W.nsIn K mainGlobals "bool" = some none)
    (z_dict : PySem.W.nsIn K mainGlobals "dict" = some none)
    (z_enumerate : PySem.W.nsIn K mainGlobals "enumerate" = some none)
    (z_int : PySem.W.nsIn K mainGlobals "int" = some none)
    (z_isinstance : PySem.W.nsIn K mainGlobals "isinstance" = some none)
    (z_len : PySem.W.nsIn K mainGlobals "len" = some none)
    (z_max : PySem.W.nsIn K mainGlobals "max" = some none)
    (z_min : PySem.W.nsIn K mainGlobals "min" = some none)
    (z_range : PySem.W.nsIn K mainGlobals "range" = some none)
    (z_str : PySem.W.nsIn K mainGlobals "str" = some none)
    (z_tuple : PySem.W.nsIn K mainGlobals "tuple" = some none)
    {t_MOST_FLIPS : Tok} (y_MOST_FLIPS : PySem.W.nsIn K mainGlobals "MOST_FLIPS" = some (some (.int 8 t_MOST_FLIPS)))
    {fi_InvalidText cda_InvalidText cc_InvalidText n3_InvalidText : Addr} {kV_InvalidText doc_InvalidText pm_InvalidText ct_InvalidText oc_InvalidText oc2_InvalidText oc3_InvalidText : Value} {an_InvalidText od_InvalidText od2_InvalidText od3_InvalidText m0_InvalidText : Option Addr} {osl_InvalidText sl2_InvalidText sl3_InvalidText : Array (Option Value)} {vs_InvalidText : Array Value} {file_InvalidText n1_InvalidText n2_InvalidText : Str} {tf_InvalidText : Tok} {n4_InvalidText n5_InvalidText n7_InvalidText : List Value} {n6_InvalidText : List Str} {n8_InvalidText : Bool} {n9_InvalidText : Option Bool} {m1_InvalidText m2_InvalidText m3_InvalidText m4_InvalidText m5_InvalidText : Option Value}
    (hC_InvalidText : K.lookup ce_InvalidText = some (excClassObj n1_InvalidText n2_InvalidText ce_InvalidText n3_InvalidText n4_InvalidText n5_InvalidText true n6_InvalidText n7_InvalidText n8_InvalidText n9_InvalidText m0_InvalidText m1_InvalidText m2_InvalidText m3_InvalidText m4_InvalidText m5_InvalidText "ValueError.__new__"))
    (hr_InvalidText : PySem.HandSPX.refsVE n5_InvalidText = true)
    (hsa_InvalidText : PySem.W.findIn K (.ref ce_InvalidText) "__setattr__" = some (some (.builtin "object.__setattr__")))
    (hbe_InvalidText : PySem.W.subIn K (.ref ce_InvalidText) (.type "BaseException") = some true)
    (hty_InvalidText : PySem.W.typeIn K (.ref ce_InvalidText) = some (.type "type"))
    (hkc_InvalidText : PySem.W.keepIn K (.ref ce_InvalidText) = true)
    (own_InvalidText : PySem.W.findIn K (.ref ce_InvalidText) "__init__" = some (some (.ref fi_InvalidText)))
    (isF_InvalidText : PySem.W.typeIn K (.ref fi_InvalidText) = some (.type "function"))
    (hf_InvalidText : K.lookup fi_InvalidText = some ⟨oc_InvalidText, od_InvalidText, .func (PySem.W.ksFn "__init__" "InvalidText.__init__" (defArgs (clsM (topS 12) 0)) (defBody (clsM (topS 12) 0)) (defScope (clsM (topS 12) 0)) .none kV_InvalidText doc_InvalidText pm_InvalidText an_InvalidText (.ref cda_InvalidText) ct_InvalidText cc_InvalidText), osl_InvalidText⟩)
    (hcd_InvalidText : PySem.W.codeIn K (.ref cda_InvalidText) "InvalidText.__init__" = true)
    (hcode_InvalidText : K.lookup cda_InvalidText = some ⟨oc2_InvalidText, od2_InvalidText, .fields vs_InvalidText, sl2_InvalidText⟩)
    (hvs_InvalidText : vs_InvalidText[2]? = some (.str file_InvalidText tf_InvalidText))
    (hfile_InvalidText : ((l.prog.main.file : Str) == file_InvalidText) = true)
    (hcell_InvalidText : K.lookup cc_InvalidText = some ⟨oc3_InvalidText, od3_InvalidText, .cell (some (.ref ce_InvalidText)), sl3_InvalidText⟩)
    (hal_InvalidText : PySem.W.alongIn K "__init__" n5_InvalidText = some (some (.builtin "ValueError.__init__")))
    (hsub_InvalidText : PySem.W.mroIn K ce_InvalidText (.ref ce_InvalidText) = some true)
    (hve_InvalidText : PySem.W.subIn K (.ref ce_InvalidText) (.type "ValueError") = some true)
    (hop_InvalidText : PySem.W.nsIn K cStatics "thirdparty.any" = some none)
    (hsup_InvalidText : PySem.W.nsIn K mainGlobals "super" = some none)
    (htop_InvalidText : (l.prog.main.scope.names.lookup ("super" : Str)).isSome = false)
    (hno_InvalidText : PySem.W.findIn K (.ref ce_InvalidText) "word" = some none)
    (hxf_InvalidText : xfB K ce_InvalidText = true)
    (hex_InvalidText : PySem.W.exmOne K (.ref ce_InvalidText) (.ref ce_InvalidText) = some true)
    (v_FLIPS : keptN K "FLIPS" kd_FLIPS = true) :
    ∃ fd : FuncData, (∀ (s : Shared) (v : Value), BindsTo s fd ⟨[v], []⟩ [("_law_script_here", v)]) ∧ ∀ base : Heap, K.In base → base.Ns mainGlobals mg → TabsOk K base mg → FnOk l.prog w K mg base (L2N.CX l.prog w) 10 fa fd ["_law_script_here"] (spLaw K (csOf K)) := by
  have e := hfa.symm.trans (PySem.W.mg_of X G a22)
  cases e
  have T0 : At K mg "is_int" s_is_int ["value", "low", "high"] := at_mk X G a0 l0 c0 k0 (fun _ _ _ _ _ _ us hl => match us, hl with | [_, _, _], _ => rfl)
  have T1 : At K mg "is_right_flip" s_is_right_flip ["value"] := at_mk X G a1 l1 c1 k1 (fun _ _ _ _ _ _ us hl => match us, hl with | [_], _ => rfl)
  have T2 : At K mg "are_flips" s_are_flips ["value", "most"] := at_mk X G a2 l2 c2 k2 (fun _ _ _ _ _ _ us hl => match us, hl with | [_, _], _ => rfl)
  have T3 : At K mg "is_right_script" s_is_right_script ["value"] := at_mk X G a3 l3 c3 k3 (fun _ _ _ _ _ _ us hl => match us, hl with | [_], _ => rfl)
  have T4 : At K mg "need_script" s_need_script ["value"] := at_mk X G a4 l4 c4 k4 (fun _ _ _ _ _ _ us hl => match us, hl with | [_], _ => rfl)
  have T5 : At K mg "flip_text" s_flip_text ["flip"] := at_mk X G a5 l5 c5 k5 (fun _ _ _ _ _ _ us hl => match us, hl with | [_], _ => rfl)
  have T6 : At K mg "text_of" s_text_of ["script"] := at_mk X G a6 l6 c6 k6 (fun _ _ _ _ _ _ us hl => match us, hl with | [_], _ => rfl)
  have T7 : At K mg "script_text" s_script_text ["script"] := at_mk X G a7 l7 c7 k7 (fun _ _ _ _ _ _ us hl => match us, hl with | [_], _ => rfl)
  have T8 : At K mg "read_script" s_read_script ["value"] := at_mk X G a8 l8 c8 k8 (fun _ _ _ _ _ _ us hl => match us, hl with | [_], _ => rfl)
  have T9 : At K mg "_law_source" s__law_source ["_law_script_here", "_law_k"] := at_mk X G a9 l9 c9 k9 (fun _ _ _ _ _ _ us hl => match us, hl with | [_, _], _ => rfl)
  have T10 : At K mg "_law_pick" s__law_pick ["_law_source_here", "_law_many"] := at_mk X G a10 l10 c10 k10 (fun _ _ _ _ _ _ us hl => match us, hl with | [_, _], _ => rfl)
  have T11 : At K mg "_law_chosen" s__law_chosen ["_law_source_here", "_law_things"] := at_mk X G a11 l11 c11 k11 (fun _ _ _ _ _ _ us hl => match us, hl with | [_, _], _ => rfl)
  have T14 : At K mg "_law_flip" s__law_flip ["_law_source_here"] := at_mk X G a14 l14 c14 k14 (fun _ _ _ _ _ _ us hl => match us, hl with | [_], _ => rfl)
  have T15 : At K mg "_law_script" s__law_script ["_law_source_here", "_law_most_so"] := at_mk X G a15 l15 c15 k15 (fun _ _ _ _ _ _ us hl => match us, hl with | [_, _], _ => rfl)
  have T16 : At K mg "_law_word_of" s__law_word_of ["_law_flip_here"] := at_mk X G a16 l16 c16 k16 (fun _ _ _ _ _ _ us hl => match us, hl with | [_], _ => rfl)
  have T17 : At K mg "_law_text" s__law_text ["_law_script_so"] := at_mk X G a17 l17 c17 k17 (fun _ _ _ _ _ _ us hl => match us, hl with | [_], _ => rfl)
  have T18 : At K mg "_law_due" s__law_due ["_law_text_so"] := at_mk X G a18 l18 c18 k18 (fun _ _ _ _ _ _ us hl => match us, hl with | [_], _ => rfl)
  have T19 : At K mg "_law_read" s__law_read ["_law_value"] := at_mk X G a19 l19 c19 k19 (fun _ _ _ _ _ _ us hl => match us, hl with | [_], _ => rfl)
  have T20 : At K mg "_law_bent" s__law_bent ["_law_source_here", "_law_text_so"] := at_mk X G a20 l20 c20 k20 (fun _ _ _ _ _ _ us hl => match us, hl with | [_, _], _ => rfl)
  have T21 : AtL K mg "_law_written" s__law_written [] := atL_mk X G a21 l21 c21 k21 t21 (fun _ _ _ _ _ _ us hl => match us, hl with | [], _ => rfl)
  have nb_all : NoB mg "all" := ⟨PySem.W.mg_none_of X G z_all⟩
  have nb_bool : NoB mg "bool" := ⟨PySem.W.mg_none_of X G z_bool⟩
  have nb_dict : NoB mg "dict" := ⟨PySem.W.mg_none_of X G z_dict⟩
  have nb_enumerate : NoB mg "enumerate" := ⟨PySem.W.mg_none_of X G z_enumerate⟩
  have nb_int : NoB mg "int" := ⟨PySem.W.mg_none_of X G z_int⟩
  have nb_isinstance : NoB mg "isinstance" := ⟨PySem.W.mg_none_of X G z_isinstance⟩
  have nb_len : NoB mg "len" := ⟨PySem.W.mg_none_of X G z_len⟩
  have nb_max : NoB mg "max" := ⟨PySem.W.mg_none_of X G z_max⟩
  have nb_min : NoB mg "min" := ⟨PySem.W.mg_none_of X G z_min⟩
  have nb_range : NoB mg "range" := ⟨PySem.W.mg_none_of X G z_range⟩
  have nb_str : NoB mg "str" := ⟨PySem.W.mg_none_of X G z_str⟩
  have nb_tuple : NoB mg "tuple" := ⟨PySem.W.mg_none_of X G z_tuple⟩
  have ci_MOST_FLIPS : IntB mg "MOST_FLIPS" 8 := ⟨_, PySem.W.mg_of X G y_MOST_FLIPS⟩
  have kc_FLIPS : KepB K mg "FLIPS" kd_FLIPS := kepB_of X G v_FLIPS
  have me_InvalidFlip := PySem.W.mg_of X G ma_InvalidFlip
  have me_InvalidScript := PySem.W.mg_of X G ma_InvalidScript
  have me_InvalidHeight := PySem.W.mg_of X G ma_InvalidHeight
  have me_InvalidPlace := PySem.W.mg_of X G ma_InvalidPlace
  have me_InvalidNumber := PySem.W.mg_of X G ma_InvalidNumber
  have me_InvalidIndex := PySem.W.mg_of X G ma_InvalidIndex
  have me_InvalidStack := PySem.W.mg_of X G ma_InvalidStack
  have me_Unlike := PySem.W.mg_of X G ma_Unlike
  have me_NothingToUndo := PySem.W.mg_of X G ma_NothingToUndo
  have me_TooMany := PySem.W.mg_of X G ma_TooMany
  have me_InvalidText := PySem.W.mg_of X G ma_InvalidText
  have me_FlipError := PySem.W.mg_of X G ma_FlipError
  have eb_InvalidScript : ExcB K mg "InvalidScript" := ⟨_, me_InvalidScript, rq_InvalidScript, rk_InvalidScript, rb_InvalidScript, rt_InvalidScript⟩
  have ec := errsB_ok xe
  refine ⟨PySem.W.fnOf "law" "law" (defArgs s_law) (defBody s_law) (defScope s_law) .none kV22 dc22 pm22 an22 cd22 ct22, fun s v => .of_eq rfl, fun base _ _ hT => ?_⟩
  have ef_InvalidText : ExcF l.prog w K mg base "InvalidText" "word" := excF_of (a := "word") (st := (clsM (topS 12) 0)) me_InvalidText hC_InvalidText hr_InvalidText hsa_InvalidText hbe_InvalidText hty_InvalidText hkc_InvalidText own_InvalidText isF_InvalidText hf_InvalidText hcd_InvalidText hcode_InvalidText hvs_InvalidText hfile_InvalidText hcell_InvalidText hal_InvalidText hsub_InvalidText hve_InvalidText hop_InvalidText (PySem.W.mg_none_of X G hsup_InvalidText) htop_InvalidText hno_InvalidText hxf_InvalidText hex_InvalidText rfl (fun us hl => match us, hl with | [_, _], _ => rfl) (by decide +kernel) rfl rfl (by decide) (by decide) (by decide) (by decide) _ (fun env => by rfl) (fun env => by rfl)
  have ok_is_int := at_is_int (P := l.prog) (w := w) (base := base) T0 nb_int nb_isinstance nb_bool
  have ok_is_right_flip := at_is_right_flip (P := l.prog) (w := w) (base := base) T1 ok_is_int nb_tuple nb_isinstance nb_len nb_str
  have ok_are_flips := at_are_flips (P := l.prog) (w := w) (base := base) T2 ok_is_right_flip nb_tuple nb_isinstance nb_len nb_all
  have ok_is_right_script := at_is_right_script (P := l.prog) (w := w) (base := base) T3 ok_are_flips ci_MOST_FLIPS
  have ok_need_script := at_need_script (P := l.prog) (w := w) (base := base) T4 ok_is_right_script eb_InvalidScript
  have ok_flip_text := at_flip_text (P := l.prog) (w := w) (base := base) T5 
  have ok_text_of := at_text_of (P := l.prog) (w := w) (base := base) T6 ok_flip_text
  have ok_script_text := at_script_text (P := l.prog) (w := w) (base := base) T7 ok_need_script ok_text_of
  have ok_read_script := at_read_script (P := l.prog) (w := w) (base := base) T8 ok_flip_text nb_str nb_isinstance nb_dict nb_enumerate nb_len nb_tuple ci_MOST_FLIPS kc_FLIPS ef_InvalidText
  have ok__law_source := at__law_source (P := l.prog) (w := w) (base := base) T9 nb_len nb_int
  have ok__law_pick := at__law_pick (P := l.prog) (w := w) (base := base) T10 nb_int
  have ok__law_chosen := at__law_chosen (P := l.prog) (w := w) (base := base) T11 ok__law_pick nb_len
  have ok_err : ErrAt l.prog w K mg base 6 kinds9 ce_FlipError := by
    refine ⟨_, _, PySem.W.mg_of X G a12, k12, (fun_mk (st := s__law_error) l12 c12 k12).binds (fun _ _ _ _ _ _ us hl => match us, hl with | [_], _ => rfl), fun x wd h => ?_⟩
    have hm := kinds_mem h
    simp only [kinds9, List.mem_cons, Prod.mk.injEq, List.not_mem_nil, or_false] at hm
    rcases hm with ⟨rfl, rfl⟩ | ⟨rfl, rfl⟩ | ⟨rfl, rfl⟩ | ⟨rfl, rfl⟩ | ⟨rfl, rfl⟩ | ⟨rfl, rfl⟩ | ⟨rfl, rfl⟩ | ⟨rfl, rfl⟩ | ⟨rfl, rfl⟩
    · exact ⟨ce_InvalidFlip, me_InvalidFlip, ec.up 0 (by decide), _, (at__law_error (P := l.prog) (w := w) (base := base) (b0 := true) (b1 := false) (b2 := false) (b3 := false) (b4 := false) (b5 := false) (b6 := false) (b7 := false) (b8 := false) (b9 := false) (b10 := false) (fun_mk (st := s__law_error) l12 c12 k12) (ec.ec 0 (by decide)) me_InvalidFlip me_InvalidScript me_InvalidHeight me_InvalidPlace me_InvalidNumber me_InvalidIndex me_InvalidStack me_Unlike me_NothingToUndo me_TooMany me_InvalidText (ec.one 0 0 (by decide) (show 0 < 11 by decide)) (ec.one 0 1 (by decide) (show 1 < 11 by decide)) (ec.one 0 2 (by decide) (show 2 < 11 by decide)) (ec.one 0 3 (by decide) (show 3 < 11 by decide)) (ec.one 0 4 (by decide) (show 4 < 11 by decide)) (ec.one 0 5 (by decide) (show 5 < 11 by decide)) (ec.one 0 6 (by decide) (show 6 < 11 by decide)) (ec.one 0 7 (by decide) (show 7 < 11 by decide)) (ec.one 0 8 (by decide) (show 8 < 11 by decide)) (ec.one 0 9 (by decide) (show 9 < 11 by decide)) (ec.one 0 10 (by decide) (show 10 < 11 by decide)) nb_isinstance).mono (by decide), fun a μ => err_word0 a μ⟩
    · exact ⟨ce_InvalidScript, me_InvalidScript, ec.up 1 (by decide), _, (at__law_error (P := l.prog) (w := w) (base := base) (b0 := false) (b1 := true) (b2 := false) (b3 := false) (b4 := false) (b5 := false) (b6 := false) (b7 := false) (b8 := false) (b9 := false) (b10 := false) (fun_mk (st := s__law_error) l12 c12 k12) (ec.ec 1 (by decide)) me_InvalidFlip me_InvalidScript me_InvalidHeight me_InvalidPlace me_InvalidNumber me_InvalidIndex me_InvalidStack me_Unlike me_NothingToUndo me_TooMany me_InvalidText (ec.one 1 0 (by decide) (show 0 < 11 by decide)) (ec.one 1 1 (by decide) (show 1 < 11 by decide)) (ec.one 1 2 (by decide) (show 2 < 11 by decide)) (ec.one 1 3 (by decide) (show 3 < 11 by decide)) (ec.one 1 4 (by decide) (show 4 < 11 by decide)) (ec.one 1 5 (by decide) (show 5 < 11 by decide)) (ec.one 1 6 (by decide) (show 6 < 11 by decide)) (ec.one 1 7 (by decide) (show 7 < 11 by decide)) (ec.one 1 8 (by decide) (show 8 < 11 by decide)) (ec.one 1 9 (by decide) (show 9 < 11 by decide)) (ec.one 1 10 (by decide) (show 10 < 11 by decide)) nb_isinstance).mono (by decide), fun a μ => err_word1 a μ⟩
    · exact ⟨ce_InvalidHeight, me_InvalidHeight, ec.up 2 (by decide), _, (at__law_error (P := l.prog) (w := w) (base := base) (b0 := false) (b1 := false) (b2 := true) (b3 := false) (b4 := false) (b5 := false) (b6 := false) (b7 := false) (b8 := false) (b9 := false) (b10 := false) (fun_mk (st := s__law_error) l12 c12 k12) (ec.ec 2 (by decide)) me_InvalidFlip me_InvalidScript me_InvalidHeight me_InvalidPlace me_InvalidNumber me_InvalidIndex me_InvalidStack me_Unlike me_NothingToUndo me_TooMany me_InvalidText (ec.one 2 0 (by decide) (show 0 < 11 by decide)) (ec.one 2 1 (by decide) (show 1 < 11 by decide)) (ec.one 2 2 (by decide) (show 2 < 11 by decide)) (ec.one 2 3 (by decide) (show 3 < 11 by decide)) (ec.one 2 4 (by decide) (show 4 < 11 by decide)) (ec.one 2 5 (by decide) (show 5 < 11 by decide)) (ec.one 2 6 (by decide) (show 6 < 11 by decide)) (ec.one 2 7 (by decide) (show 7 < 11 by decide)) (ec.one 2 8 (by decide) (show 8 < 11 by decide)) (ec.one 2 9 (by decide) (show 9 < 11 by decide)) (ec.one 2 10 (by decide) (show 10 < 11 by decide)) nb_isinstance).mono (by decide), fun a μ => err_word2 a μ⟩
    · exact ⟨ce_InvalidPlace, me_InvalidPlace, ec.up 3 (by decide), _, (at__law_error (P := l.prog) (w := w) (base := base) (b0 := false) (b1 := false) (b2 := false) (b3 := true) (b4 := false) (b5 := false) (b6 := false) (b7 := false) (b8 := false) (b9 := false) (b10 := false) (fun_mk (st := s__law_error) l12 c12 k12) (ec.ec 3 (by decide)) me_InvalidFlip me_InvalidScript me_InvalidHeight me_InvalidPlace me_InvalidNumber me_InvalidIndex me_InvalidStack me_Unlike me_NothingToUndo me_TooMany me_InvalidText (ec.one 3 0 (by decide) (show 0 < 11 by decide)) (ec.one 3 1 (by decide) (show 1 < 11 by decide)) (ec.one 3 2 (by decide) (show 2 < 11 by decide)) (ec.one 3 3 (by decide) (show 3 < 11 by decide)) (ec.one 3 4 (by decide) (show 4 < 11 by decide)) (ec.one 3 5 (by decide) (show 5 < 11 by decide)) (ec.one 3 6 (by decide) (show 6 < 11 by decide)) (ec.one 3 7 (by decide) (show 7 < 11 by decide)) (ec.one 3 8 (by decide) (show 8 < 11 by decide)) (ec.one 3 9 (by decide) (show 9 < 11 by decide)) (ec.one 3 10 (by decide) (show 10 < 11 by decide)) nb_isinstance).mono (by decide), fun a μ => err_word3 a μ⟩
    · exact ⟨ce_InvalidNumber, me_InvalidNumber, ec.up 4 (by decide), _, (at__law_error (P := l.prog) (w := w) (base := base) (b0 := false) (b1 := false) (b2 := false) (b3 := false) (b4 := true) (b5 := false) (b6 := false) (b7 := false) (b8 := false) (b9 := false) (b10 := false) (fun_mk (st := s__law_error) l12 c12 k12) (ec.ec 4 (by decide)) me_InvalidFlip me_InvalidScript me_InvalidHeight me_InvalidPlace me_InvalidNumber me_InvalidIndex me_InvalidStack me_Unlike me_NothingToUndo me_TooMany me_InvalidText (ec.one 4 0 (by decide) (show 0 < 11 by decide)) (ec.one 4 1 (by decide) (show 1 < 11 by decide)) (ec.one 4 2 (by decide) (show 2 < 11 by decide)) (ec.one 4 3 (by decide) (show 3 < 11 by decide)) (ec.one 4 4 (by decide) (show 4 < 11 by decide)) (ec.one 4 5 (by decide) (show 5 < 11 by decide)) (ec.one 4 6 (by decide) (show 6 < 11 by decide)) (ec.one 4 7 (by decide) (show 7 < 11 by decide)) (ec.one 4 8 (by decide) (show 8 < 11 by decide)) (ec.one 4 9 (by decide) (show 9 < 11 by decide)) (ec.one 4 10 (by decide) (show 10 < 11 by decide)) nb_isinstance).mono (by decide), fun a μ => err_word4 a μ⟩
    · exact ⟨ce_InvalidIndex, me_InvalidIndex, ec.up 5 (by decide), _, (at__law_error (P := l.prog) (w := w) (base := base) (b0 := false) (b1 := false) (b2 := false) (b3 := false) (b4 := false) (b5 := true) (b6 := false) (b7 := false) (b8 := false) (b9 := false) (b10 := false) (fun_mk (st := s__law_error) l12 c12 k12) (ec.ec 5 (by decide)) me_InvalidFlip me_InvalidScript me_InvalidHeight me_InvalidPlace me_InvalidNumber me_InvalidIndex me_InvalidStack me_Unlike me_NothingToUndo me_TooMany me_InvalidText (ec.one 5 0 (by decide) (show 0 < 11 by decide)) (ec.one 5 1 (by decide) (show 1 < 11 by decide)) (ec.one 5 2 (by decide) (show 2 < 11 by decide)) (ec.one 5 3 (by decide) (show 3 < 11 by decide)) (ec.one 5 4 (by decide) (show 4 < 11 by decide)) (ec.one 5 5 (by decide) (show 5 < 11 by decide)) (ec.one 5 6 (by decide) (show 6 < 11 by decide)) (ec.one 5 7 (by decide) (show 7 < 11 by decide)) (ec.one 5 8 (by decide) (show 8 < 11 by decide)) (ec.one 5 9 (by decide) (show 9 < 11 by decide)) (ec.one 5 10 (by decide) (show 10 < 11 by decide)) nb_isinstance).mono (by decide), fun a μ => err_word5 a μ⟩
    · exact ⟨ce_InvalidStack, me_InvalidStack, ec.up 6 (by decide), _, (at__law_error (P := l.prog) (w := w) (base := base) (b0 := false) (b1 := false) (b2 := false) (b3 := false) (b4 := false) (b5 := false) (b6 := true) (b7 := false) (b8 := false) (b9 := false) (b10 := false) (fun_mk (st := s__law_error) l12 c12 k12) (ec.ec 6 (by decide)) me_InvalidFlip me_InvalidScript me_InvalidHeight me_InvalidPlace me_InvalidNumber me_InvalidIndex me_InvalidStack me_Unlike me_NothingToUndo me_TooMany me_InvalidText (ec.one 6 0 (by decide) (show 0 < 11 by decide)) (ec.one 6 1 (by decide) (show 1 < 11 by decide)) (ec.one 6 2 (by decide) (show 2 < 11 by decide)) (ec.one 6 3 (by decide) (show 3 < 11 by decide)) (ec.one 6 4 (by decide) (show 4 < 11 by decide)) (ec.one 6 5 (by decide) (show 5 < 11 by decide)) (ec.one 6 6 (by decide) (show 6 < 11 by decide)) (ec.one 6 7 (by decide) (show 7 < 11 by decide)) (ec.one 6 8 (by decide) (show 8 < 11 by decide)) (ec.one 6 9 (by decide) (show 9 < 11 by decide)) (ec.one 6 10 (by decide) (show 10 < 11 by decide)) nb_isinstance).mono (by decide), fun a μ => err_word6 a μ⟩
    · exact ⟨ce_Unlike, me_Unlike, ec.up 7 (by decide), _, (at__law_error (P := l.prog) (w := w) (base := base) (b0 := false) (b1 := false) (b2 := false) (b3 := false) (b4 := false) (b5 := false) (b6 := false) (b7 := true) (b8 := false) (b9 := false) (b10 := false) (fun_mk (st := s__law_error) l12 c12 k12) (ec.ec 7 (by decide)) me_InvalidFlip me_InvalidScript me_InvalidHeight me_InvalidPlace me_InvalidNumber me_InvalidIndex me_InvalidStack me_Unlike me_NothingToUndo me_TooMany me_InvalidText (ec.one 7 0 (by decide) (show 0 < 11 by decide)) (ec.one 7 1 (by decide) (show 1 < 11 by decide)) (ec.one 7 2 (by decide) (show 2 < 11 by decide)) (ec.one 7 3 (by decide) (show 3 < 11 by decide)) (ec.one 7 4 (by decide) (show 4 < 11 by decide)) (ec.one 7 5 (by decide) (show 5 < 11 by decide)) (ec.one 7 6 (by decide) (show 6 < 11 by decide)) (ec.one 7 7 (by decide) (show 7 < 11 by decide)) (ec.one 7 8 (by decide) (show 8 < 11 by decide)) (ec.one 7 9 (by decide) (show 9 < 11 by decide)) (ec.one 7 10 (by decide) (show 10 < 11 by decide)) nb_isinstance).mono (by decide), fun a μ => err_word7 a μ⟩
    · exact ⟨ce_NothingToUndo, me_NothingToUndo, ec.up 8 (by decide), _, (at__law_error (P := l.prog) (w := w) (base := base) (b0 := false) (b1 := false) (b2 := false) (b3 := false) (b4 := false) (b5 := false) (b6 := false) (b7 := false) (b8 := true) (b9 := false) (b10 := false) (fun_mk (st := s__law_error) l12 c12 k12) (ec.ec 8 (by decide)) me_InvalidFlip me_InvalidScript me_InvalidHeight me_InvalidPlace me_InvalidNumber me_InvalidIndex me_InvalidStack me_Unlike me_NothingToUndo me_TooMany me_InvalidText (ec.one 8 0 (by decide) (show 0 < 11 by decide)) (ec.one 8 1 (by decide) (show 1 < 11 by decide)) (ec.one 8 2 (by decide) (show 2 < 11 by decide)) (ec.one 8 3 (by decide) (show 3 < 11 by decide)) (ec.one 8 4 (by decide) (show 4 < 11 by decide)) (ec.one 8 5 (by decide) (show 5 < 11 by decide)) (ec.one 8 6 (by decide) (show 6 < 11 by decide)) (ec.one 8 7 (by decide) (show 7 < 11 by decide)) (ec.one 8 8 (by decide) (show 8 < 11 by decide)) (ec.one 8 9 (by decide) (show 9 < 11 by decide)) (ec.one 8 10 (by decide) (show 10 < 11 by decide)) nb_isinstance).mono (by decide), fun a μ => err_word8 a μ⟩
  have ok__law_refused : RefAt l.prog w K mg base 6 kinds9 := ⟨_, _, s__law_refused, ce_FlipError, _, _, _, _, _, _, _, _, _, _, _, _, _, fun_mk (st := s__law_refused) l13 c13 k13, PySem.W.mg_of X G a13, (fun_mk (st := s__law_refused) l13 c13 k13).binds (fun _ _ _ _ _ _ us hl => match us, hl with | [_], _ => rfl), sc__law_refused, rfl, rfl, rfl, rfl, rfl, me_FlipError, ok_err⟩
  have ok__law_flip := at__law_flip (P := l.prog) (w := w) (base := base) T14 ok__law_pick
  have ok__law_script := at__law_script (P := l.prog) (w := w) (base := base) T15 ok__law_pick ok__law_flip nb_range nb_tuple
  have ok__law_word_of := at__law_word_of (P := l.prog) (w := w) (base := base) T16 nb_str
  have ok__law_text := at__law_text (P := l.prog) (w := w) (base := base) T17 ok__law_word_of
  have ok__law_due := at__law_due (P := l.prog) (w := w) (base := base) T18 ok__law_word_of nb_str nb_isinstance nb_range nb_enumerate nb_len nb_tuple
  have ok__law_read := at__law_read (P := l.prog) (w := w) (base := base) T19 ok_read_script ef_InvalidText
  have ok__law_bent := at__law_bent (P := l.prog) (w := w) (base := base) T20 ok__law_pick ok__law_chosen nb_len nb_int
  have ok__law_written := at__law_written (P := l.prog) (w := w) (base := base) T21 hT ok_script_text ok_read_script ok__law_read ok__law_refused
  exact law_end (at_law (P := l.prog) (w := w) (base := base) (fun_mk (st := s_law) l22 c22 k22) ok__law_source ok__law_script ok__law_text ok_script_text ok__law_read ok__law_bent ok__law_due ok__law_written nb_range nb_len nb_min nb_max) law_true
end Law
open PySem PySem.W PyProof.Rows
set_option maxHeartbeats 0 in
theorem PySem.Challenge.cw_griddleflips_k82_whole_scripts_written_a_holds : PySem.Challenge.rw_griddleflips_k82_whole_scripts_written_a.Holds := by
  w_on; o_law; k_head; (case hw => w_witness2)
  k_fill
  refine GF.walk_end (l := PySem.Challenge.rw_griddleflips_k82_whole_scripts_written_a) (n := 63) (k := 10) (x := "_law_script_here") rfl (by decide) (by decide) rfl ⟨rfl, by decide, by decide⟩ (fun w h Y => PySem.W.km_in_of Y) (fun w => by kernel_rfl) ?F
  case F =>
    intro w mg fa h KX G hmg
    refine' Law.all_mk KX G hmg ?a0 ?l0 ?c0 ?k0 ?a1 ?l1 ?c1 ?k1 ?a2 ?l2 ?c2 ?k2 ?a3 ?l3 ?c3 ?k3 ?a4 ?l4 ?c4 ?k4 ?a5 ?l5 ?c5 ?k5 ?a6 ?l6 ?c6 ?k6 ?a7 ?l7 ?c7 ?k7 ?a8 ?l8 ?c8 ?k8 ?a9 ?l9 ?c9 ?k9 ?a10 ?l10 ?c10 ?k10 ?a11 ?l11 ?c11 ?k11 ?a12 ?l12 ?c12 ?k12 ?a13 ?l13 ?c13 ?k13 ?a14 ?l14 ?c14 ?k14 ?a15 ?l15 ?c15 ?k15 ?a16 ?l16 ?c16 ?k16 ?a17 ?l17 ?c17 ?k17 ?a18 ?l18 ?c18 ?k18 ?a19 ?l19 ?c19 ?k19 ?a20 ?l20 ?c20 ?k20 ?a21 ?l21 ?c21 ?k21 ?t21 ?a22 ?l22 ?c22 ?k22 ?ma_InvalidFlip ?ma_InvalidScript ?ma_InvalidHeight ?ma_InvalidPlace ?ma_InvalidNumber ?ma_InvalidIndex ?ma_InvalidStack ?ma_Unlike ?ma_NothingToUndo ?ma_TooMany ?ma_InvalidText ?ma_FlipError ?rq_InvalidScript ?rk_InvalidScript ?rb_InvalidScript ?rt_InvalidScript ?xe ?z_all ?z_bool ?z_dict ?z_enumerate ?z_int ?z_isinstance ?z_len ?z_max ?z_min ?z_range ?z_str ?z_tuple ?y_MOST_FLIPS ?hC_InvalidText ?hr_InvalidText ?hsa_InvalidText ?hbe_InvalidText ?hty_InvalidText ?hkc_InvalidText ?own_InvalidText ?isF_InvalidText ?hf_InvalidText ?hcd_InvalidText ?hcode_InvalidText ?hvs_InvalidText ?hfile_InvalidText ?hcell_InvalidText ?hal_InvalidText ?hsub_InvalidText ?hve_InvalidText ?hop_InvalidText ?hsup_InvalidText ?htop_InvalidText ?hno_InvalidText ?hxf_InvalidText ?hex_InvalidText ?v_FLIPS
    (case a0 => k_is); (case l0 => k_is); (case c0 => k_is); (case k0 => k_is)
    (case a1 => k_is); (case l1 => k_is); (case c1 => k_is); (case k1 => k_is)
    (case a2 => k_is); (case l2 => k_is); (case c2 => k_is); (case k2 => k_is)
    (case a3 => k_is); (case l3 => k_is); (case c3 => k_is); (case k3 => k_is)
    (case a4 => k_is); (case l4 => k_is); (case c4 => k_is); (case k4 => k_is)
    (case a5 => k_is); (case l5 => k_is); (case c5 => k_is); (case k5 => k_is)
    (case a6 => k_is); (case l6 => k_is); (case c6 => k_is); (case k6 => k_is)
    (case a7 => k_is); (case l7 => k_is); (case c7 => k_is); (case k7 => k_is)
    (case a8 => k_is); (case l8 => k_is); (case c8 => k_is); (case k8 => k_is)
    (case a9 => k_is); (case l9 => k_is); (case c9 => k_is); (case k9 => k_is)
    (case a10 => k_is); (case l10 => k_is); (case c10 => k_is); (case k10 => k_is)
    (case a11 => k_is); (case l11 => k_is); (case c11 => k_is); (case k11 => k_is)
    (case a12 => k_is); (case l12 => k_is); (case c12 => k_is); (case k12 => k_is)
    (case a13 => k_is); (case l13 => k_is); (case c13 => k_is); (case k13 => k_is)
    (case a14 => k_is); (case l14 => k_is); (case c14 => k_is); (case k14 => k_is)
    (case a15 => k_is); (case l15 => k_is); (case c15 => k_is); (case k15 => k_is)
    (case a16 => k_is); (case l16 => k_is); (case c16 => k_is); (case k16 => k_is)
    (case a17 => k_is); (case l17 => k_is); (case c17 => k_is); (case k17 => k_is)
    (case a18 => k_is); (case l18 => k_is); (case c18 => k_is); (case k18 => k_is)
    (case a19 => k_is); (case l19 => k_is); (case c19 => k_is); (case k19 => k_is)
    (case a20 => k_is); (case l20 => k_is); (case c20 => k_is); (case k20 => k_is)
    (case a21 => k_is); (case l21 => k_is); (case c21 => k_is); (case k21 => k_is)
    (case t21 => kernel_rfl)
    (case a22 => k_is); (case l22 => k_is); (case c22 => k_is); (case k22 => k_is)
    (case ma_InvalidFlip => k_is)
    (case ma_InvalidScript => k_is)
    (case ma_InvalidHeight => k_is)
    (case ma_InvalidPlace => k_is)
    (case ma_InvalidNumber => k_is)
    (case ma_InvalidIndex => k_is)
    (case ma_InvalidStack => k_is)
    (case ma_Unlike => k_is)
    (case ma_NothingToUndo => k_is)
    (case ma_TooMany => k_is)
    (case ma_InvalidText => k_is)
    (case ma_FlipError => k_is)
    (case rq_InvalidScript => k_exc); (case rk_InvalidScript => k_is); (case rb_InvalidScript => k_is); (case rt_InvalidScript => k_is)
    (case xe => kernel_rfl)
    (case z_all => k_is)
    (case z_bool => k_is)
    (case z_dict => k_is)
    (case z_enumerate => k_is)
    (case z_int => k_is)
    (case z_isinstance => k_is)
    (case z_len => k_is)
    (case z_max => k_is)
    (case z_min => k_is)
    (case z_range => k_is)
    (case z_str => k_is)
    (case z_tuple => k_is)
    (case y_MOST_FLIPS => k_is)
    (case hC_InvalidText => k_is)
    (case hr_InvalidText => decide +kernel)
    (case hsa_InvalidText => k_is)
    (case hbe_InvalidText => k_is)
    (case hty_InvalidText => k_is)
    (case hkc_InvalidText => k_is)
    (case own_InvalidText => k_is)
    (case isF_InvalidText => k_is)
    (case hf_InvalidText => k_is)
    (case hcd_InvalidText => k_is)
    (case hcode_InvalidText => k_is)
    (case hvs_InvalidText => rfl)
    (case hfile_InvalidText => kernel_rfl)
    (case hcell_InvalidText => k_is)
    (case hal_InvalidText => kernel_rfl)
    (case hsub_InvalidText => k_is)
    (case hve_InvalidText => k_is)
    (case hop_InvalidText => k_is)
    (case hsup_InvalidText => k_is)
    (case htop_InvalidText => kernel_rfl)
    (case hno_InvalidText => k_is)
    (case hxf_InvalidText => kernel_rfl)
    (case hex_InvalidText => kernel_rfl)
    (case v_FLIPS => kernel_rfl)

